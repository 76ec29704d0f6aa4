import PyProof.Rows.All
import Wide.All
import OpenK.AllK
import Wide.FinOn
import HandS.ForMost
import HandS.Exc
import HandS.TryOnly
import HandS.ExcOwn
import HandS.WordsExc
import HandS.Defaults
import HandS.Style
import HandS.Deep
import HandS.TupAny
import HandS.IsInst
import HandS.Conv
import HandS.Walk
import HandS.Ends
import HandS.HeadEnd
import HandS.Set
import HandS.SetKeys
import HandS.Strs
import KE.SortData
import HandS.Text
import HandS.EndBits
import HandS.Head0
import HandS.Head1
import HandS.Head2
import HandS.HeadHook1
import HandS.HeadHook2
import PyProof.ReprLen
import HandS.FStr
import PyProof.RulesMatch
import PyProof.RulesMatchSeq
import PyProof.Rows.MatchSeqLen
import KE.KUnpack
import PyProof.StrOps2
import HandS.Star
import HandS.RaiseMore
import HandS.ExcValue
import HandS.ExcIs
import HandS.DictComp
import HandS.TupMul
import HandS.CallLocal
import KE.KRevSl
import PySem.Challenge.RW_boundonce_k13_texts_typed
set_option Elab.async false
set_option linter.all false
set_option maxRecDepth 100000
set_option maxHeartbeats 2000000
set_option autoImplicit false
/-! Bo1: data, the small heap, what they are of HandS's values and heaps. -/
namespace Bo
open PySem PySem.Spec L2

/-- a value: data as a tree (frozen lists, tuples, dicts), a mutable object by its number, a thing of the module's top by its number -/
inductive D where
  | non | bl (b : Bool) | int (i : Int) | str (x : Str)
  | tup (xs : List D) | lst (xs : List D) | kl (xs : List D) | dct (ks : List Key) (xs : List D)
  | loc (n : Nat) | fn (i : Nat) | ty (n : String) | ex (c : Nat)
  deriving Inhabited

/-- a mutable object -/
inductive Ob where
  | lst (xs : List D)
  | ins (c : Nat) (fs : List (Str × D))
  | dct (ks : List Key) (xs : List D)
  deriving Inhabited

/-- the small heap -/
structure Hc where
  next : Nat
  m : List (Nat × Ob)

def Hc.get (h : Hc) (n : Nat) : Option Ob := h.m.lookup n
def setM (n : Nat) (o : Ob) : List (Nat × Ob) → List (Nat × Ob)
  | [] => []
  | p :: r => if p.1 = n then (n, o) :: r else p :: setM n o r
def Hc.set (h : Hc) (n : Nat) (o : Ob) : Hc := ⟨h.next, setM n o h.m⟩
def Hc.new (h : Hc) (o : Ob) : Hc := ⟨h.next + 1, (h.next, o) :: h.m⟩
def Hc.del (h : Hc) (n : Nat) : Hc := ⟨h.next, h.m.filter fun p => !(p.1 == n)⟩

theorem lookup_setM {n k : Nat} {o : Ob} : ∀ {m : List (Nat × Ob)}, (setM n o m).lookup k = if k = n then (m.lookup n).map (fun _ => o) else m.lookup k
  | [] => by simp [setM]
  | (a, b) :: r => by
    unfold setM
    by_cases h : a = n
    · subst h
      simp only [if_pos rfl, List.lookup]
      by_cases hk : k = a
      · subst hk; simp
      · have e1 : (k == a) = false := by simpa using hk
        simp [hk, List.lookup, e1]
    · have ih := lookup_setM (n := n) (k := k) (o := o) (m := r)
      simp only [if_neg h, List.lookup]
      by_cases hk : k = n
      · subst hk
        have e1 : (k == a) = false := by simpa using Ne.symm h
        rw [e1]
        simpa using ih
      · by_cases hka : k = a
        · subst hka; simp [hk]
        · have e1 : (k == a) = false := by simpa using hka
          rw [e1]
          simpa [hk] using ih
theorem Hc.get_set {h : Hc} {n k : Nat} {o : Ob} : (h.set n o).get k = if k = n then (h.get n).map (fun _ => o) else h.get k := lookup_setM
theorem Hc.get_new {h : Hc} {k : Nat} {o : Ob} : (h.new o).get k = if k = h.next then some o else h.get k := by
  unfold Hc.new Hc.get
  by_cases hk : k = h.next
  · subst hk; simp [List.lookup]
  · have e1 : (k == h.next) = false := by simpa using hk
    simp [List.lookup, e1, hk]
theorem Hc.get_del {h : Hc} {n k : Nat} {o : Ob} (e : (h.del n).get k = some o) : h.get k = some o ∧ k ≠ n := by
  unfold Hc.del Hc.get at *
  generalize h.m = m at e ⊢
  dsimp only at e
  induction m with
  | nil => simp at e
  | cons p r ih =>
    obtain ⟨a, b⟩ := p
    by_cases ha : a = n
    · subst ha
      have : ((a, b) :: r).filter (fun p => !(p.1 == a)) = r.filter (fun p => !(p.1 == a)) := by simp
      rw [this] at e
      obtain ⟨h1, h2⟩ := ih e
      refine ⟨?_, h2⟩
      have e1 : (k == a) = false := by simpa using h2
      simp [List.lookup, e1, h1]
    · have : ((a, b) :: r).filter (fun p => !(p.1 == n)) = (a, b) :: r.filter (fun p => !(p.1 == n)) := by simp [ha]
      rw [this] at e
      by_cases hk : k = a
      · subst hk
        simp [List.lookup] at e
        subst e
        exact ⟨by simp [List.lookup], ha⟩
      · have e1 : (k == a) = false := by simpa using hk
        simp only [List.lookup, e1] at e ⊢
        exact ih e

/-- what a piece of the program comes to -/
inductive Res (α : Type) where
  | ok (a : α) (h : Hc) | exc (c : Nat) (h : Hc) | bad
def Res.bind {α β : Type} (r : Res α) (k : α → Hc → Res β) : Res β := match r with
  | .ok a h => k a h
  | .exc c h => .exc c h
  | .bad => .bad

/-- the text's facts: the written part, the module's names, the addresses of the top's things -/
structure Gx where
  K : PySem.W.Frag
  fa : Nat → Addr

/-- an exception object of the class cls at a (raised or not) -/
def ExA (cls : Value) (a : Addr) : HO := .ext fun h => ∃ (oe : Obj) (vs : Array Value), h.get? a = some oe ∧ Zc cls none oe ∧ oe.data = .fields vs
/-- where frozen things and numbered objects stand -/
structure Fz where
  F : Hp
  ρ : Nat → Option Addr

mutual
inductive RelD (g : Gx) (z : Fz) : D → V → Prop
  | non : RelD g z .non .non
  | bl (b : Bool) : RelD g z (.bl b) (.bl b)
  | int (i : Int) : RelD g z (.int i) (.int i)
  | str (x : Str) : RelD g z (.str x) (.str x)
  | lst {a : Addr} {xs : List V} {ds : List D} : Rd z.F a (.lst xs) → RelDs g z ds xs → RelD g z (.lst ds) (.ref a)
  | kl {a : Addr} {xs : List V} {ds : List D} : SqL g.K z.F a xs → RelDs g z ds xs → RelD g z (.kl ds) (.ref a)
  | tup {a : Addr} {xs : List V} {ds : List D} : SqT g.K z.F a xs → RelDs g z ds xs → RelD g z (.tup ds) (.ref a)
  | dct {a : Addr} {ks : List Key} {xs : List V} {ds : List D} : z.F a = some (.dK (ks.zip xs)) → ks.length = ds.length → RelDs g z ds xs → RelD g z (.dct ks ds) (.ref a)
  | loc {n : Nat} {a : Addr} : z.ρ n = some a → RelD g z (.loc n) (.ref a)
  | fn (i : Nat) : RelD g z (.fn i) (.ref (g.fa i))
  | ty (n : String) : RelD g z (.ty n) (.ty n)
  | ex {c : Nat} {a : Addr} : z.F a = some (ExA (.ref (g.fa c)) a) → RelD g z (.ex c) (.ref a)
inductive RelDs (g : Gx) (z : Fz) : List D → List V → Prop
  | nil : RelDs g z [] []
  | cons {d : D} {ds : List D} {v : V} {vs : List V} : RelD g z d v → RelDs g z ds vs → RelDs g z (d :: ds) (v :: vs)
end

def FLe (z z' : Fz) : Prop := (∀ a o, z.F a = some o → z'.F a = some o) ∧ ∀ n a, z.ρ n = some a → z'.ρ n = some a
theorem FLe.refl (z : Fz) : FLe z z := ⟨fun _ _ h => h, fun _ _ h => h⟩
theorem FLe.trans {a b c : Fz} (x : FLe a b) (y : FLe b c) : FLe a c := ⟨fun a o h => y.1 a o (x.1 a o h), fun n a h => y.2 n a (x.2 n a h)⟩
theorem Rd.mono {H H' : Hp} {a : Addr} {u : HO} (k : ∀ a o, H a = some o → H' a = some o) (h : Rd H a u) : Rd H' a u := by
  rcases h with h | ⟨o, h⟩
  · exact .inl (k _ _ h)
  · exact .inr ⟨o, k _ _ h⟩
theorem SqL.mono {K : PySem.W.Frag} {H H' : Hp} {a : Addr} {xs : List V} (k : ∀ a o, H a = some o → H' a = some o) (h : SqL K H a xs) : SqL K H' a xs := by
  rcases h with (h | ⟨o, h⟩) | h
  · exact .inl (.inl (k _ _ h))
  · exact .inl (.inr ⟨o, k _ _ h⟩)
  · exact .inr h
theorem SqT.mono {K : PySem.W.Frag} {H H' : Hp} {a : Addr} {xs : List V} (k : ∀ a o, H a = some o → H' a = some o) (h : SqT K H a xs) : SqT K H' a xs := by
  rcases h with (h | ⟨o, h⟩) | h
  · exact .inl (.inl (k _ _ h))
  · exact .inl (.inr ⟨o, k _ _ h⟩)
  · exact .inr h
mutual
theorem RelD.mono {g : Gx} {z z' : Fz} (l : FLe z z') : ∀ {d : D} {v : V}, RelD g z d v → RelD g z' d v
  | _, _, .non => .non
  | _, _, .bl b => .bl b
  | _, _, .int b => .int b
  | _, _, .str b => .str b
  | _, _, .lst h r => .lst (Rd.mono l.1 h) (RelDs.mono l r)
  | _, _, .kl h r => .kl (SqL.mono l.1 h) (RelDs.mono l r)
  | _, _, .tup h r => .tup (SqT.mono l.1 h) (RelDs.mono l r)
  | _, _, .dct h e r => .dct (l.1 _ _ h) e (RelDs.mono l r)
  | _, _, .loc h => .loc (l.2 _ _ h)
  | _, _, .fn i => .fn i
  | _, _, .ty i => .ty i
  | _, _, .ex h => .ex (l.1 _ _ h)
theorem RelDs.mono {g : Gx} {z z' : Fz} (l : FLe z z') : ∀ {d : List D} {v : List V}, RelDs g z d v → RelDs g z' d v
  | _, _, .nil => .nil
  | _, _, .cons h r => .cons (RelD.mono l h) (RelDs.mono l r)
end
theorem RelDs.length {g : Gx} {z : Fz} : ∀ {ds : List D} {vs : List V}, RelDs g z ds vs → ds.length = vs.length
  | _, _, .nil => rfl
  | _, _, .cons _ r => by simp [RelDs.length r]
theorem RelDs.append {g : Gx} {z : Fz} : ∀ {ds es : List D} {vs ws : List V}, RelDs g z ds vs → RelDs g z es ws → RelDs g z (ds ++ es) (vs ++ ws)
  | _, _, _, _, .nil, s => s
  | _, _, _, _, .cons r t, s => .cons r (RelDs.append t s)
theorem RelDs.get {g : Gx} {z : Fz} : ∀ {ds : List D} {vs : List V} {i : Nat} {d : D}, RelDs g z ds vs → ds[i]? = some d → ∃ v, vs[i]? = some v ∧ RelD g z d v
  | _, _, _, _, .nil, e => by simp at e
  | _, _, 0, _, .cons r _, e => by simp at e; subst e; exact ⟨_, rfl, r⟩
  | _, _, i + 1, d, .cons _ t, e => by
    obtain ⟨u, h1, h2⟩ := RelDs.get (i := i) (d := d) t (by simpa using e)
    exact ⟨u, by simpa using h1, h2⟩
theorem RelDs.getV {g : Gx} {z : Fz} : ∀ {ds : List D} {vs : List V} {i : Nat} {v : V}, RelDs g z ds vs → vs[i]? = some v → ∃ d, ds[i]? = some d ∧ RelD g z d v
  | _, _, _, _, .nil, e => by simp at e
  | _, _, 0, _, .cons r _, e => by simp at e; subst e; exact ⟨_, rfl, r⟩
  | _, _, i + 1, d, .cons _ t, e => by
    obtain ⟨u, h1, h2⟩ := RelDs.getV (i := i) (v := d) t (by simpa using e)
    exact ⟨u, by simpa using h1, h2⟩
theorem RelDs.set {g : Gx} {z : Fz} {d : D} {v : V} (r : RelD g z d v) : ∀ {ds : List D} {vs : List V} (i : Nat), RelDs g z ds vs → RelDs g z (ds.set i d) (vs.set i v)
  | _, _, _, .nil => .nil
  | _, _, 0, .cons _ t => .cons r t
  | _, _, i + 1, .cons q t => .cons q (RelDs.set r i t)
theorem RelDs.take {g : Gx} {z : Fz} : ∀ {ds : List D} {vs : List V} (n : Nat), RelDs g z ds vs → RelDs g z (ds.take n) (vs.take n)
  | _, _, 0, _ => .nil
  | _, _, _ + 1, .nil => .nil
  | _, _, n + 1, .cons r t => .cons r (RelDs.take n t)
theorem RelDs.drop {g : Gx} {z : Fz} : ∀ {ds : List D} {vs : List V} (n : Nat), RelDs g z ds vs → RelDs g z (ds.drop n) (vs.drop n)
  | _, _, 0, r => r
  | _, _, _ + 1, .nil => .nil
  | _, _, n + 1, .cons _ t => RelDs.drop n t

/-- what a numbered object is in the abstract heap -/
def ObR (g : Gx) (z : Fz) (H : Hp) (a : Addr) : Ob → Prop
  | .lst ds => ∃ xs, H a = some (.lst xs) ∧ RelDs g z ds xs
  | .ins c fs => ∃ dx vs, H a = some (.ins (g.fa c) dx (fs.map (·.1) |>.zip vs)) ∧ RelDs g z (fs.map (·.2)) vs
  | .dct ks ds => ∃ vs, H a = some (.dK (ks.zip vs)) ∧ ks.length = ds.length ∧ RelDs g z ds vs

structure StR (g : Gx) (z : Fz) (H : Hp) (hc : Hc) : Prop where
  sub : ∀ a o, z.F a = some o → H a = some o
  inj : ∀ n m a, z.ρ n = some a → z.ρ m = some a → n = m
  live : ∀ n a, z.ρ n = some a → ∃ o, H a = some o
  fresh : ∀ n, hc.next ≤ n → z.ρ n = none
  obj : ∀ n o, hc.get n = some o → ∃ a, z.ρ n = some a ∧ z.F a = none ∧ ObR g z H a o

/-- a step of the state -/
structure Ext (z : Fz) (H : Hp) (z' : Fz) (H' : Hp) : Prop where
  le : FLe z z'
  keep : ∀ a o, H a = some o → (∀ n, z.ρ n ≠ some a) → H' a = some o
  alive : ∀ a o, H a = some o → ∃ o', H' a = some o'
  fNew : ∀ a o, z'.F a = some o → z.F a = none → H a = none ∨ ∃ n, z.ρ n = some a
  rNew : ∀ n a, z'.ρ n = some a → z.ρ n = none → H a = none
theorem Ext.refl (z : Fz) (H : Hp) : Ext z H z H := ⟨.refl z, fun _ _ h _ => h, fun _ o h => ⟨o, h⟩, fun a o h n => (by rw [h] at n; cases n), fun n a h k => (by rw [h] at k; cases k)⟩
theorem Ext.trans {z z1 z2 : Fz} {H H1 H2 : Hp} (x : Ext z H z1 H1) (y : Ext z1 H1 z2 H2) : Ext z H z2 H2 where
  le := x.le.trans y.le
  keep := fun a o h n => y.keep a o (x.keep a o h n) fun m q => by
    cases e : z.ρ m with
    | none => have := x.rNew m a q e; rw [h] at this; cases this
    | some b => have := x.le.2 m b e; rw [q] at this; cases this; exact n m e
  fNew := fun a o h n => by
    cases e : z1.F a with
    | some u => exact x.fNew a u e n
    | none =>
      rcases y.fNew a o h e with q | ⟨m, q⟩
      · cases e2 : H a with
        | none => exact .inl rfl
        | some u =>
          refine .inr (Classical.byContradiction fun c => ?_)
          have := x.keep a u e2 fun m hm => c ⟨m, hm⟩
          rw [q] at this; cases this
      · cases e2 : z.ρ m with
        | none => exact .inl (x.rNew m a q e2)
        | some b => have := x.le.2 m b e2; rw [q] at this; cases this; exact .inr ⟨m, e2⟩
  alive := fun a o h => by
    obtain ⟨o1, h1⟩ := x.alive a o h
    exact y.alive a o1 h1
  rNew := fun n a h k => by
    cases e : z1.ρ n with
    | some b =>
      have := y.le.2 n b e; rw [h] at this; cases this
      exact x.rNew n _ e k
    | none =>
      have q := y.rNew n a h e
      cases e2 : H a with
      | none => rfl
      | some u =>
        obtain ⟨o1, h1⟩ := x.alive a u e2
        rw [q] at h1; cases h1

/-- the slots: unknown, or a value -/
abbrev Sl := List (Option D)
structure Sv (g : Gx) (z : Fz) (sl : Sl) (σ : St) : Prop where
  val : ∀ (i : Nat) (d : D), sl[i]? = some (some d) → ∃ v, σ[i]? = some (some v) ∧ RelD g z d v
  len : sl.length = σ.length
theorem Sv.ext {g : Gx} {z z' : Fz} {H H' : Hp} {sl : Sl} {σ : St} (h : Sv g z sl σ) (x : Ext z H z' H') : Sv g z' sl σ where
  val := fun i d e => let ⟨v, h1, h2⟩ := h.val i d e; ⟨v, h1, h2.mono x.le⟩
  len := h.len
theorem Sv.set {g : Gx} {z : Fz} {sl : Sl} {σ : St} {d : D} {v : V} (h : Sv g z sl σ) (r : RelD g z d v) (i : Nat) : Sv g z (sl.set i (some d)) (σ.set i (some v)) where
  val := fun j e q => by
    by_cases hj : i = j
    · subst hj
      by_cases hl : i < sl.length
      · rw [List.getElem?_set_self hl] at q
        cases q
        exact ⟨v, List.getElem?_set_self (by rw [← h.len]; exact hl), r⟩
      · rw [List.getElem?_eq_none (by simpa using hl)] at q; cases q
    · rw [List.getElem?_set_ne hj] at q
      rw [List.getElem?_set_ne hj]
      exact h.val j e q
  len := by simp [h.len]

/-! ### outcomes -/
def OutE (g : Gx) (W : WX) (z : Fz) (H : Hp) (σ : St) (r : Res D) (Q : VK) : Prop := match r with
  | .ok d hc => ∀ z' H' v, Ext z H z' H' → StR g z' H' hc → RelD g z' d v → Q v H'
  | .exc c hc => ∀ z' H', Ext z H z' H' → StR g z' H' hc → W (.ref (g.fa c)) none σ H'
  | .bad => False
def OutA (g : Gx) (W : WX) (z : Fz) (H : Hp) (σ : St) (r : Res (List D)) (Q : List V → Hp → Prop) : Prop := match r with
  | .ok ds hc => ∀ z' H' vs, Ext z H z' H' → StR g z' H' hc → RelDs g z' ds vs → Q vs H'
  | .exc c hc => ∀ z' H', Ext z H z' H' → StR g z' H' hc → W (.ref (g.fa c)) none σ H'
  | .bad => False
def OutT (g : Gx) (W : WX) (z : Fz) (H : Hp) (σ : St) (r : Res Bool) (Q : Bool → Hp → Prop) : Prop := match r with
  | .ok b hc => ∀ z' H', Ext z H z' H' → StR g z' H' hc → Q b H'
  | .exc c hc => ∀ z' H', Ext z H z' H' → StR g z' H' hc → W (.ref (g.fa c)) none σ H'
  | .bad => False
section
variable {g : Gx} {W : WX} {z z1 : Fz} {H H1 : Hp} {σ : St}
theorem OutE.ext {r : Res D} {Q : VK} (h : OutE g W z H σ r Q) (x : Ext z H z1 H1) : OutE g W z1 H1 σ r Q := by
  cases r with
  | ok d hc => exact fun z' H' v y s r => h z' H' v (x.trans y) s r
  | exc c hc => exact fun z' H' y s => h z' H' (x.trans y) s
  | bad => exact h
theorem OutA.ext {r : Res (List D)} {Q : List V → Hp → Prop} (h : OutA g W z H σ r Q) (x : Ext z H z1 H1) : OutA g W z1 H1 σ r Q := by
  cases r with
  | ok d hc => exact fun z' H' v y s r => h z' H' v (x.trans y) s r
  | exc c hc => exact fun z' H' y s => h z' H' (x.trans y) s
  | bad => exact h
theorem OutT.ext {r : Res Bool} {Q : Bool → Hp → Prop} (h : OutT g W z H σ r Q) (x : Ext z H z1 H1) : OutT g W z1 H1 σ r Q := by
  cases r with
  | ok d hc => exact fun z' H' y s => h z' H' (x.trans y) s
  | exc c hc => exact fun z' H' y s => h z' H' (x.trans y) s
  | bad => exact h
end
/-! ### readings -/
def tI (g : Gx) (W : WX) (f : Sl → Hc → Res D) : TE := fun σ H Q => ∃ z sl hc, Sv g z sl σ ∧ StR g z H hc ∧ OutE g W z H σ (f sl hc) Q
def aI (g : Gx) (W : WX) (f : Sl → Hc → Res (List D)) : TA := fun σ H Q => ∃ z sl hc, Sv g z sl σ ∧ StR g z H hc ∧ OutA g W z H σ (f sl hc) Q
def bI (g : Gx) (W : WX) (f : Sl → Hc → Res Bool) : TT := fun σ H Q => ∃ z sl hc, Sv g z sl σ ∧ StR g z H hc ∧ OutT g W z H σ (f sl hc) Q
section
variable {g : Gx} {W : WX} {z : Fz} {H : Hp} {σ : St} {sl : Sl} {hc : Hc}
/-- an expression is read, then the rest -/
theorem OutE.thenE {f : Sl → Hc → Res D} {k : D → Hc → Res D} {Q : VK} (hs : Sv g z sl σ) (st : StR g z H hc) (h : OutE g W z H σ ((f sl hc).bind k) Q) :
    tI g W f σ H fun v H1 => ∃ z1 d hc1, Ext z H z1 H1 ∧ Sv g z1 sl σ ∧ StR g z1 H1 hc1 ∧ RelD g z1 d v ∧ OutE g W z1 H1 σ (k d hc1) Q := by
  refine ⟨z, sl, hc, hs, st, ?_⟩
  cases e : f sl hc with
  | ok d hc1 => rw [e] at h; exact fun z' H' v x s r => ⟨z', d, hc1, x, hs.ext x, s, r, OutE.ext h x⟩
  | exc c hc1 => rw [e] at h; exact h
  | bad => rw [e] at h; exact h
theorem OutA.thenE {f : Sl → Hc → Res D} {k : D → Hc → Res (List D)} {Q : List V → Hp → Prop} (hs : Sv g z sl σ) (st : StR g z H hc) (h : OutA g W z H σ ((f sl hc).bind k) Q) :
    tI g W f σ H fun v H1 => ∃ z1 d hc1, Ext z H z1 H1 ∧ Sv g z1 sl σ ∧ StR g z1 H1 hc1 ∧ RelD g z1 d v ∧ OutA g W z1 H1 σ (k d hc1) Q := by
  refine ⟨z, sl, hc, hs, st, ?_⟩
  cases e : f sl hc with
  | ok d hc1 => rw [e] at h; exact fun z' H' v x s r => ⟨z', d, hc1, x, hs.ext x, s, r, OutA.ext h x⟩
  | exc c hc1 => rw [e] at h; exact h
  | bad => rw [e] at h; exact h
theorem OutT.thenE {f : Sl → Hc → Res D} {k : D → Hc → Res Bool} {Q : Bool → Hp → Prop} (hs : Sv g z sl σ) (st : StR g z H hc) (h : OutT g W z H σ ((f sl hc).bind k) Q) :
    tI g W f σ H fun v H1 => ∃ z1 d hc1, Ext z H z1 H1 ∧ Sv g z1 sl σ ∧ StR g z1 H1 hc1 ∧ RelD g z1 d v ∧ OutT g W z1 H1 σ (k d hc1) Q := by
  refine ⟨z, sl, hc, hs, st, ?_⟩
  cases e : f sl hc with
  | ok d hc1 => rw [e] at h; exact fun z' H' v x s r => ⟨z', d, hc1, x, hs.ext x, s, r, OutT.ext h x⟩
  | exc c hc1 => rw [e] at h; exact h
  | bad => rw [e] at h; exact h
theorem OutE.thenA {f : Sl → Hc → Res (List D)} {k : List D → Hc → Res D} {Q : VK} (hs : Sv g z sl σ) (st : StR g z H hc) (h : OutE g W z H σ ((f sl hc).bind k) Q) :
    aI g W f σ H fun v H1 => ∃ z1 d hc1, Ext z H z1 H1 ∧ Sv g z1 sl σ ∧ StR g z1 H1 hc1 ∧ RelDs g z1 d v ∧ OutE g W z1 H1 σ (k d hc1) Q := by
  refine ⟨z, sl, hc, hs, st, ?_⟩
  cases e : f sl hc with
  | ok d hc1 => rw [e] at h; exact fun z' H' v x s r => ⟨z', d, hc1, x, hs.ext x, s, r, OutE.ext h x⟩
  | exc c hc1 => rw [e] at h; exact h
  | bad => rw [e] at h; exact h
theorem OutA.thenA {f : Sl → Hc → Res (List D)} {k : List D → Hc → Res (List D)} {Q : List V → Hp → Prop} (hs : Sv g z sl σ) (st : StR g z H hc) (h : OutA g W z H σ ((f sl hc).bind k) Q) :
    aI g W f σ H fun v H1 => ∃ z1 d hc1, Ext z H z1 H1 ∧ Sv g z1 sl σ ∧ StR g z1 H1 hc1 ∧ RelDs g z1 d v ∧ OutA g W z1 H1 σ (k d hc1) Q := by
  refine ⟨z, sl, hc, hs, st, ?_⟩
  cases e : f sl hc with
  | ok d hc1 => rw [e] at h; exact fun z' H' v x s r => ⟨z', d, hc1, x, hs.ext x, s, r, OutA.ext h x⟩
  | exc c hc1 => rw [e] at h; exact h
  | bad => rw [e] at h; exact h
theorem OutE.thenT {f : Sl → Hc → Res Bool} {k : Bool → Hc → Res D} {Q : VK} (hs : Sv g z sl σ) (st : StR g z H hc) (h : OutE g W z H σ ((f sl hc).bind k) Q) :
    bI g W f σ H fun b H1 => ∃ z1 hc1, Ext z H z1 H1 ∧ Sv g z1 sl σ ∧ StR g z1 H1 hc1 ∧ OutE g W z1 H1 σ (k b hc1) Q := by
  refine ⟨z, sl, hc, hs, st, ?_⟩
  cases e : f sl hc with
  | ok d hc1 => rw [e] at h; exact fun z' H' x s => ⟨z', hc1, x, hs.ext x, s, OutE.ext h x⟩
  | exc c hc1 => rw [e] at h; exact h
  | bad => rw [e] at h; exact h
theorem OutT.thenT {f : Sl → Hc → Res Bool} {k : Bool → Hc → Res Bool} {Q : Bool → Hp → Prop} (hs : Sv g z sl σ) (st : StR g z H hc) (h : OutT g W z H σ ((f sl hc).bind k) Q) :
    bI g W f σ H fun b H1 => ∃ z1 hc1, Ext z H z1 H1 ∧ Sv g z1 sl σ ∧ StR g z1 H1 hc1 ∧ OutT g W z1 H1 σ (k b hc1) Q := by
  refine ⟨z, sl, hc, hs, st, ?_⟩
  cases e : f sl hc with
  | ok d hc1 => rw [e] at h; exact fun z' H' x s => ⟨z', hc1, x, hs.ext x, s, OutT.ext h x⟩
  | exc c hc1 => rw [e] at h; exact h
  | bad => rw [e] at h; exact h
end
theorem tI.mono {g : Gx} {W : WX} {f : Sl → Hc → Res D} {σ : St} {H : Hp} {Q Q' : VK} (h : tI g W f σ H Q) (k : ∀ v H, Q v H → Q' v H) : tI g W f σ H Q' := by
  obtain ⟨z, sl, hc, hs, st, h⟩ := h
  refine ⟨z, sl, hc, hs, st, ?_⟩
  revert h
  cases f sl hc with
  | ok d h => exact fun o z' H' v x s r => k _ _ (o z' H' v x s r)
  | exc c h => exact fun o => o
  | bad => exact fun o => o
theorem aI.mono {g : Gx} {W : WX} {f : Sl → Hc → Res (List D)} {σ : St} {H : Hp} {Q Q' : List V → Hp → Prop} (h : aI g W f σ H Q) (k : ∀ v H, Q v H → Q' v H) : aI g W f σ H Q' := by
  obtain ⟨z, sl, hc, hs, st, h⟩ := h
  refine ⟨z, sl, hc, hs, st, ?_⟩
  revert h
  cases f sl hc with
  | ok d h => exact fun o z' H' v x s r => k _ _ (o z' H' v x s r)
  | exc c h => exact fun o => o
  | bad => exact fun o => o
theorem bI.mono {g : Gx} {W : WX} {f : Sl → Hc → Res Bool} {σ : St} {H : Hp} {Q Q' : Bool → Hp → Prop} (h : bI g W f σ H Q) (k : ∀ v H, Q v H → Q' v H) : bI g W f σ H Q' := by
  obtain ⟨z, sl, hc, hs, st, h⟩ := h
  refine ⟨z, sl, hc, hs, st, ?_⟩
  revert h
  cases f sl hc with
  | ok d h => exact fun o z' H' x s => k _ _ (o z' H' x s)
  | exc c h => exact fun o => o
  | bad => exact fun o => o
/-- a reading that is implied -/
theorem pe_imp {X : Cx} {e : Expr} {t u : TE} (h : PE X e t) (k : ∀ σ H Q, u σ H Q → t σ H Q) : PE X e u := ⟨fun pins s σ H Q I hu => h.run pins s σ H Q I (k σ H Q hu)⟩
theorem pt_imp {X : Cx} {e : Expr} {t u : TT} (h : PT X e t) (k : ∀ σ H Q, u σ H Q → t σ H Q) : PT X e u := ⟨fun pins s σ H Q I hu => h.run pins s σ H Q I (k σ H Q hu)⟩
theorem pw_imp {X : Cx} {e : Expr} {t u : TT} (h : PW X e t) (k : ∀ σ H Q, u σ H Q → t σ H Q) : PW X e u := ⟨fun wh pins s σ H Q I hu => h.run wh pins s σ H Q I (k σ H Q hu)⟩
theorem pa_imp {X : Cx} {e : List Expr} {t u : TA} (h : PA X e t) (k : ∀ σ H Q, u σ H Q → t σ H Q) : PA X e u := ⟨fun pos pins s σ H Q I hu => h.run pos pins s σ H Q I (k σ H Q hu)⟩
theorem ps_imp {X : Cx} {e : Stmt} {t u : TS} (h : PS X e t) (k : ∀ E σ H, u E σ H → t E σ H) : PS X e u := ⟨fun pins s σ H E I hu => h.run pins s σ H E I (k E σ H hu)⟩
theorem pss_imp {X : Cx} {e : List Stmt} {t u : TS} (h : PSs X e t) (k : ∀ E σ H, u E σ H → t E σ H) : PSs X e u := ⟨fun pins s σ H E I hu => h.run pins s σ H E I (k E σ H hu)⟩
end Bo

set_option Elab.async false
set_option linter.all false
set_option maxRecDepth 100000
set_option maxHeartbeats 2000000
set_option autoImplicit false
/-! Bo2: expressions. -/
namespace Bo
open PySem PySem.Spec L2

/-- where one stands: the context, the text's facts, what is wished of exceptions, the room -/
structure Ct (X : Cx) (g : Gx) (W : WX) (k : Nat) : Prop where
  hK : X.K = g.K
  tk : Takes X W
  calm : X.calm = true
  room : Room k X.A
  guards : X.A.guards = some []

section
variable {g : Gx} {z : Fz} {H : Hp} {hc : Hc}
/-- a new frozen thing -/
theorem StR.alloc (st : StR g z H hc) {p : Addr} {o : HO} (hp : H p = none) : Ext z H ⟨upd z.F p o, z.ρ⟩ (upd H p o) ∧ StR g ⟨upd z.F p o, z.ρ⟩ (upd H p o) hc := by
  have hF : z.F p = none := by
    cases e : z.F p with
    | none => rfl
    | some u => have := st.sub p u e; rw [hp] at this; cases this
  have hne : ∀ a u, H a = some u → a ≠ p := fun a u e q => by subst q; rw [hp] at e; cases e
  have le : FLe z ⟨upd z.F p o, z.ρ⟩ := ⟨fun a u e => by
    show upd z.F p o a = some u
    rw [upd_ne (hne a u (st.sub a u e))]; exact e, fun _ _ e => e⟩
  refine ⟨⟨le, fun a u e _ => ?_, fun a u e => ?_, fun a u e n => ?_, fun n a e k => ?_⟩, ⟨fun a u e => ?_, st.inj, fun n a e => ?_, st.fresh, fun n u e => ?_⟩⟩
  · rw [upd_ne (hne a u e)]; exact e
  · exact ⟨u, by rw [upd_ne (hne a u e)]; exact e⟩
  · by_cases h : a = p
    · subst h; exact .inl hp
    · have e' : upd z.F p o a = some u := e
      rw [upd_ne h, n] at e'; cases e'
  · have e' : z.ρ n = some a := e
    rw [k] at e'; cases e'
  · by_cases h : a = p
    · subst h
      have e' : upd z.F a o a = some u := e
      rw [upd_same] at e' ⊢; exact e'
    · have e' : upd z.F p o a = some u := e
      rw [upd_ne h] at e' ⊢; exact st.sub a u e'
  · obtain ⟨u, hu⟩ := st.live n a e
    exact ⟨u, by rw [upd_ne (hne a u hu)]; exact hu⟩
  · obtain ⟨a, h1, h2, h3⟩ := st.obj n u e
    refine ⟨a, h1, ?_, ?_⟩
    · obtain ⟨u', hu'⟩ := st.live n a h1
      show upd z.F p o a = none
      rw [upd_ne (hne a u' hu')]; exact h2
    · cases u with
      | lst ds =>
        obtain ⟨xs, e1, e2⟩ := h3
        exact ⟨xs, by rw [upd_ne (hne a _ e1)]; exact e1, e2.mono le⟩
      | ins c fs =>
        obtain ⟨dx, vs, e1, e2⟩ := h3
        exact ⟨dx, vs, by rw [upd_ne (hne a _ e1)]; exact e1, e2.mono le⟩
      | dct ks es =>
        obtain ⟨vs, e1, el, e2⟩ := h3
        exact ⟨vs, by rw [upd_ne (hne a _ e1)]; exact e1, el, e2.mono le⟩
theorem StR.newTup (st : StR g z H hc) {p : Addr} {xs : List V} {ds : List D} (hp : H p = none) (r : RelDs g z ds xs) :
    ∃ z', Ext z H z' (upd H p (.tup xs)) ∧ StR g z' (upd H p (.tup xs)) hc ∧ RelD g z' (.tup ds) (.ref p) := by
  obtain ⟨x, s⟩ := st.alloc (o := .tup xs) hp
  exact ⟨_, x, s, .tup (SqT.of (show upd z.F p _ p = _ from upd_same)) (r.mono x.le)⟩
theorem StR.newLst (st : StR g z H hc) {p : Addr} {xs : List V} {ds : List D} (hp : H p = none) (r : RelDs g z ds xs) :
    ∃ z', Ext z H z' (upd H p (.lst xs)) ∧ StR g z' (upd H p (.lst xs)) hc ∧ RelD g z' (.lst ds) (.ref p) := by
  obtain ⟨x, s⟩ := st.alloc (o := .lst xs) hp
  exact ⟨_, x, s, .lst (Rd.of (show upd z.F p _ p = _ from upd_same)) (r.mono x.le)⟩
/-- a list that is read: frozen or numbered -/
def Hc.lst? (hc : Hc) : D → Option (List D)
  | .lst ds => some ds
  | .kl ds => some ds
  | .loc n => match hc.get n with
    | some (.lst ds) => some ds
    | _ => none
  | _ => none
theorem StR.list (st : StR g z H hc) {d : D} {ds : List D} {v : V} (e : hc.lst? d = some ds) (r : RelD g z d v) : ∃ a xs, v = .ref a ∧ SqL g.K H a xs ∧ RelDs g z ds xs := by
  cases r with
  | lst h q =>
    cases e
    exact ⟨_, _, rfl, .inl (Rd.mono st.sub h), q⟩
  | kl h q =>
    cases e
    exact ⟨_, _, rfl, SqL.mono st.sub h, q⟩
  | loc h =>
    rename_i n a
    unfold Hc.lst? at e
    cases q : hc.get n with
    | none => simp [q] at e
    | some o =>
      cases o with
      | lst es =>
        simp [q] at e
        subst e
        obtain ⟨b, h1, h2, xs, h3, h4⟩ := st.obj n _ q
        rw [h] at h1; cases h1
        exact ⟨_, _, rfl, SqL.of h3, h4⟩
      | ins c fs => simp [q] at e
      | dct ks es => simp [q] at e
  | _ => cases e
theorem StR.tuple (st : StR g z H hc) {ds : List D} {v : V} (r : RelD g z (.tup ds) v) : ∃ a xs, v = .ref a ∧ SqT g.K H a xs ∧ RelDs g z ds xs := by
  cases r with
  | tup h q => exact ⟨_, _, rfl, SqT.mono st.sub h, q⟩
end

/-! ### operators that are pure: they read the small heap and give a value -/
def lift (r : Option D) (hc : Hc) : Res D := match r with
  | some d => .ok d hc
  | none => .bad
theorem OutE.lift {g : Gx} {W : WX} {z : Fz} {H : Hp} {σ : St} {r : Option D} {hc : Hc} {Q : VK} (h : OutE g W z H σ (Bo.lift r hc) Q) : ∃ d, r = some d ∧ ∀ z' H' v, Ext z H z' H' → StR g z' H' hc → RelD g z' d v → Q v H' := by
  cases r with
  | none => exact h.elim
  | some d => exact ⟨d, rfl, h⟩
/-- two values -/
def rP (g : Gx) (op : Hc → D → D → Option D) : R2 := fun x y H Q => ∃ z hc d e r, StR g z H hc ∧ RelD g z d x ∧ RelD g z e y ∧ op hc d e = some r ∧ ∀ z' H' v, Ext z H z' H' → StR g z' H' hc → RelD g z' r v → Q v H'
/-- arguments -/
def rA (g : Gx) (op : Hc → List D → Option D) : List V → Hp → VK → Prop := fun xs H Q => ∃ z hc ds r, StR g z H hc ∧ RelDs g z ds xs ∧ op hc ds = some r ∧ ∀ z' H' v, Ext z H z' H' → StR g z' H' hc → RelD g z' r v → Q v H'
/-- one value -/
def rU1 (g : Gx) (op : Hc → D → Option D) : V → Hp → VK → Prop := fun x H Q => ∃ z hc d r, StR g z H hc ∧ RelD g z d x ∧ op hc d = some r ∧ ∀ z' H' v, Ext z H z' H' → StR g z' H' hc → RelD g z' r v → Q v H'

def opE (op : Hc → D → D → Option D) (fa fb : Sl → Hc → Res D) : Sl → Hc → Res D := fun sl hc => (fa sl hc).bind fun d hc1 => (fb sl hc1).bind fun e hc2 => lift (op hc2 d e) hc2
def unE (op : Hc → D → Option D) (fa : Sl → Hc → Res D) : Sl → Hc → Res D := fun sl hc => (fa sl hc).bind fun d hc1 => lift (op hc1 d) hc1
def blE (op : Hc → List D → Option D) (fa : Sl → Hc → Res (List D)) : Sl → Hc → Res D := fun sl hc => (fa sl hc).bind fun d hc1 => lift (op hc1 d) hc1

section
variable {X : Cx} {g : Gx} {W : WX} {a b c : Expr} {fa fb fc : Sl → Hc → Res D} {ft fu : Sl → Hc → Res Bool} {es : List Expr} {fs : Sl → Hc → Res (List D)} {pos : Pos} {op op2 : Hc → D → D → Option D}
theorem read_op {σ : St} {H : Hp} {Q : VK} (h : tI g W (opE op fa fb) σ H Q) : tOp (rP g op) (tI g W fa) (tI g W fb) σ H Q := by
  obtain ⟨z, sl, hc, hs, st, h⟩ := h
  refine tI.mono (OutE.thenE (f := fa) hs st h) fun v H1 ⟨z1, d1, hc1, x1, hs1, st1, r1, o1⟩ => ?_
  refine tI.mono (OutE.thenE (f := fb) hs1 st1 o1) fun w H2 ⟨z2, d2, hc2, x2, hs2, st2, r2, o2⟩ => ?_
  obtain ⟨rr, er, hq⟩ := o2.lift
  exact ⟨z2, hc2, d1, d2, rr, st2, r1.mono x2.le, r2, er, hq⟩
/-! ### names, constants -/
def vE (i : Nat) : Sl → Hc → Res D := fun sl hc => match sl[i]? with
  | some (some d) => .ok d hc
  | _ => .bad
def cE (d : D) : Sl → Hc → Res D := fun _ hc => .ok d hc
theorem e_var (i : Nat) {x : Str} (hN : X.N[i]? = some x := by rfl) (hv : Vis X.env.scope x := by first | exact Or.inl rfl | exact Or.inr (Or.inl rfl) | exact Or.inr (Or.inr rfl)) (hd : (x == ("__debug__" : Str)) = false := by decide)
    (hcd : (x == ("__classdict__" : Str)) = false := by decide) : PE X (.Name x pos) (tI g W (vE i)) := by
  refine pe_imp (pe_var hN hv hd hcd) fun σ H Q ⟨z, sl, hc, hs, st, h⟩ => ?_
  unfold vE at h
  cases e : sl[i]? with
  | none => rw [e] at h; exact h.elim
  | some o =>
    cases o with
    | none => rw [e] at h; exact h.elim
    | some d =>
      rw [e] at h
      obtain ⟨v, h1, h2⟩ := hs.val i d e
      exact ⟨v, h1, h z H v (.refl z H) st h2⟩
theorem e_of {e : Expr} {v : V} {d : D} (p : PE X e (tC v)) (r : ∀ z, RelD g z d v) : PE X e (tI g W (cE d)) :=
  pe_imp p fun σ H Q ⟨z, sl, hc, hs, st, h⟩ => h z H v (.refl z H) st (r z)
theorem e_int {i : Int} {j : Nat} : PE X (.Constant (.int i) j pos) (tI g W (cE (.int i))) := e_of pe_int fun _ => .int i
theorem e_bl {i : Bool} {j : Nat} : PE X (.Constant (.bool i) j pos) (tI g W (cE (.bl i))) := e_of pe_bl fun _ => .bl i
theorem e_non {j : Nat} : PE X (.Constant .none j pos) (tI g W (cE .non)) := e_of pe_non fun _ => .non
theorem e_str {x : Str} {j : Nat} : PE X (.Constant (.str x) j pos) (tI g W (cE (.str x))) := e_of pe_str fun _ => .str x
/-- a constant of the module's top -/
theorem e_gcs {x : Str} {d : D} {v : V} {u : Value} (hm : X.mg x = some u) (rv : RelV v u) (r : ∀ z, RelD g z d v) (hg : Gl X x := by rfl) (hd : (x == ("__debug__" : Str)) = false := by decide) : PE X (.Name x pos) (tI g W (cE d)) := e_of (pe_glob hg hm rv hd) r
/-! ### arguments, displays -/
def nA : Sl → Hc → Res (List D) := fun _ hc => .ok [] hc
def kA (fa : Sl → Hc → Res D) (fr : Sl → Hc → Res (List D)) : Sl → Hc → Res (List D) := fun sl hc => (fa sl hc).bind fun d hc1 => (fr sl hc1).bind fun ds hc2 => .ok (d :: ds) hc2
theorem a_nil : PA X [] (aI g W nA) := pa_imp pa_nil fun σ H Q ⟨z, sl, hc, hs, st, h⟩ => h z H [] (.refl z H) st .nil
theorem a_cons (ha : PE X a (tI g W fa)) (hr : PA X es (aI g W fs)) (hs : starEach (a :: es) X.env = (false, eval a X.env) :: starEach es X.env := by rfl) : PA X (a :: es) (aI g W (kA fa fs)) := by
  refine pa_imp (pa_cons ha hr hs) fun σ H Q ⟨z, sl, hc, hs, st, h⟩ => ?_
  refine tI.mono (OutA.thenE (f := fa) hs st h) fun v H1 ⟨z1, d1, hc1, x1, hs1, st1, r1, o1⟩ => ?_
  refine aI.mono (OutA.thenA (f := fs) hs1 st1 o1) fun ws H2 ⟨z2, d2, hc2, x2, hs2, st2, r2, o2⟩ => ?_
  exact o2 z2 H2 _ (.refl z2 H2) st2 (.cons (r1.mono x2.le) r2)
def tupE (fs : Sl → Hc → Res (List D)) : Sl → Hc → Res D := fun sl hc => (fs sl hc).bind fun ds hc1 => if ds.length ≤ sizeLine then .ok (.tup ds) hc1 else .bad
def lstE (fs : Sl → Hc → Res (List D)) : Sl → Hc → Res D := fun sl hc => (fs sl hc).bind fun ds hc1 => if ds.length ≤ sizeLine then .ok (.lst ds) hc1 else .bad
theorem e_tup {k : Nat} (h : PA X es (aI g W fs)) : PE X (.Tuple es k pos) (tI g W (tupE fs)) := by
  refine pe_imp (pe_tup h) fun σ H Q ⟨z, sl, hc, hs, st, h⟩ => ?_
  refine aI.mono (OutE.thenA (f := fs) hs st h) fun vs H1 ⟨z1, ds, hc1, x1, hs1, st1, r1, o1⟩ => ?_
  by_cases hl : ds.length ≤ sizeLine
  · simp only [hl, if_true] at o1
    refine ⟨by rw [← r1.length]; exact hl, fun p hp => ?_⟩
    obtain ⟨z2, x2, s2, r2⟩ := st1.newTup hp r1
    exact o1 _ _ _ x2 s2 r2
  · simp only [hl, if_false] at o1
    exact o1.elim
theorem e_lst (h : PA X es (aI g W fs)) : PE X (.List es pos) (tI g W (lstE fs)) := by
  refine pe_imp (pe_lst h) fun σ H Q ⟨z, sl, hc, hs, st, h⟩ => ?_
  refine aI.mono (OutE.thenA (f := fs) hs st h) fun vs H1 ⟨z1, ds, hc1, x1, hs1, st1, r1, o1⟩ => ?_
  by_cases hl : ds.length ≤ sizeLine
  · simp only [hl, if_true] at o1
    refine ⟨by rw [← r1.length]; exact hl, fun p hp => ?_⟩
    obtain ⟨z2, x2, s2, r2⟩ := st1.newLst hp r1
    exact o1 _ _ _ x2 s2 r2
  · simp only [hl, if_false] at o1
    exact o1.elim
/-! ### operators -/
theorem e_bin {o : Operator} (ho : OpR X (binaryOp o) (rP g op)) (ha : PE X a (tI g W fa)) (hb : PE X b (tI g W fb)) : PE X (.BinOp a o b pos) (tI g W (opE op fa fb)) := pe_imp (pe_op ho ha hb) fun _ _ _ => read_op
theorem e_cmp {o : CmpOp} (ho : OpR X (compareOp o) (rP g op)) (ha : PE X a (tI g W fa)) (hb : PE X b (tI g W fb)) (hm : behindInMarks o b = false := by first | exact nomark _ | rfl) : PE X (.Compare a [o] [b] pos) (tI g W (opE op fa fb)) := pe_imp (pe_cmpR ho ha hb hm) fun _ _ _ => read_op
def chE (op op2 : Hc → D → D → Option D) (fa fb fc : Sl → Hc → Res D) : Sl → Hc → Res D := fun sl hc => (fa sl hc).bind fun d hc1 => (fb sl hc1).bind fun e hc2 => match op hc2 d e with
  | some (.bl true) => (fc sl hc2).bind fun f hc3 => lift (op2 hc3 e f) hc3
  | some (.bl false) => .ok (.bl false) hc2
  | _ => .bad
theorem read_ch {σ : St} {H : Hp} {Q : VK} (h : tI g W (chE op op2 fa fb fc) σ H Q) : tChain (rP g op) (rP g op2) (tI g W fa) (tI g W fb) (tI g W fc) σ H Q := by
  obtain ⟨z, sl, hc, hs, st, h⟩ := h
  refine tI.mono (OutE.thenE (f := fa) hs st h) fun v H1 ⟨z1, d1, hc1, x1, hs1, st1, r1, o1⟩ => ?_
  refine tI.mono (OutE.thenE (f := fb) hs1 st1 o1) fun w H2 ⟨z2, d2, hc2, x2, hs2, st2, r2, o2⟩ => ?_
  cases e : op hc2 d1 d2 with
  | none => simp only [e] at o2; exact o2.elim
  | some r =>
    cases r with
    | bl b =>
      refine ⟨z2, hc2, d1, d2, .bl b, st2, r1.mono x2.le, r2, e, fun z3 H3 v3 x3 s3 r3 => ?_⟩
      cases r3
      refine ⟨b, rfl, ?_⟩
      cases b with
      | true =>
        simp only [e] at o2
        simp only [if_true]
        have o3 := OutE.ext o2 x3
        refine tI.mono (OutE.thenE (f := fc) (hs2.ext x3) s3 o3) fun w' H4 ⟨z4, d4, hc4, x4, hs4, st4, r4, o4⟩ => ?_
        obtain ⟨rr, er, hq⟩ := o4.lift
        exact ⟨z4, hc4, d2, d4, rr, st4, (r2.mono x3.le).mono x4.le, r4, er, hq⟩
      | false =>
        simp only [e] at o2
        simp only [Bool.false_eq_true, if_false]
        exact o2 z3 H3 _ x3 s3 (.bl false)
    | _ => simp only [e] at o2; exact o2.elim
theorem e_ch {o o' : CmpOp} (ho : OpR X (compareOp o) (rP g op)) (ho' : OpR X (compareOp o') (rP g op2)) (ha : PE X a (tI g W fa)) (hb : PE X b (tI g W fb)) (hc : PE X c (tI g W fc)) (hm : lastMarks [o, o'] [b, c] = false := by with_unfolding_all rfl) :
    PE X (.Compare a [o, o'] [b, c] pos) (tI g W (chE op op2 fa fb fc)) := pe_imp (pe_chain ho ho' ha hb hc hm) fun _ _ _ => read_ch
/-! ### tests -/
def bT (f : Sl → Hc → Res D) : Sl → Hc → Res Bool := fun sl hc => (f sl hc).bind fun d hc1 => match d with
  | .bl b => .ok b hc1
  | _ => .bad
theorem read_bT {σ : St} {H : Hp} {Q : Bool → Hp → Prop} (h : bI g W (bT fa) σ H Q) : tI g W fa σ H fun x H' => ∃ k, x = .bl k ∧ Q k H' := by
  obtain ⟨z, sl, hc, hs, st, h⟩ := h
  refine tI.mono (OutT.thenE (f := fa) hs st h) fun v H1 ⟨z1, d1, hc1, x1, hs1, st1, r1, o1⟩ => ?_
  cases r1 with
  | bl b => exact ⟨b, rfl, o1 z1 H1 (.refl z1 H1) st1⟩
  | _ => exact o1.elim
theorem t_cmp {o : CmpOp} (ho : OpR X (compareOp o) (rP g op)) (ha : PE X a (tI g W fa)) (hb : PE X b (tI g W fb)) (hm : behindInMarks o b = false := by first | exact nomark _ | rfl) : PT X (.Compare a [o] [b] pos) (bI g W (bT (opE op fa fb))) :=
  pt_imp (pt_cmpR ho ha hb hm) fun σ H Q h => read_op (tI.mono (read_bT h) fun _ _ q => q)
theorem t_ch {o o' : CmpOp} (ho : OpR X (compareOp o) (rP g op)) (ho' : OpR X (compareOp o') (rP g op2)) (ha : PE X a (tI g W fa)) (hb : PE X b (tI g W fb)) (hc : PE X c (tI g W fc)) (hm : lastMarks [o, o'] [b, c] = false := by with_unfolding_all rfl) :
    PT X (.Compare a [o, o'] [b, c] pos) (bI g W (bT (chE op op2 fa fb fc))) := pt_imp (pt_chain ho ho' ha hb hc hm) fun σ H Q h => read_ch (tI.mono (read_bT h) fun _ _ q => q)
/-- an expression that gives a bool -/
theorem t_val (ha : PE X a (tI g W fa)) (he : ∀ whole, isTrue a X.env whole = (do let v ← whole; standAt a.pos; holding [v] (truthy v)) := by intro _; rfl) : PT X a (bI g W (bT fa)) := pt_imp (pt_val ha he) fun σ H Q h => read_bT h
def nT (f : Sl → Hc → Res Bool) : Sl → Hc → Res Bool := fun sl hc => (f sl hc).bind fun b hc1 => .ok (!b) hc1
theorem t_not (ha : PT X a (bI g W ft)) : PT X (.UnaryOp .Not a pos) (bI g W (nT ft)) := by
  refine pt_imp (pt_not ha) fun σ H Q ⟨z, sl, hc, hs, st, h⟩ => ?_
  refine bI.mono (OutT.thenT (f := ft) hs st h) fun b H1 ⟨z1, hc1, x1, hs1, st1, o1⟩ => ?_
  exact o1 z1 H1 (.refl z1 H1) st1
def andT (f k : Sl → Hc → Res Bool) : Sl → Hc → Res Bool := fun sl hc => (f sl hc).bind fun b hc1 => if b then k sl hc1 else .ok false hc1
def orT (f k : Sl → Hc → Res Bool) : Sl → Hc → Res Bool := fun sl hc => (f sl hc).bind fun b hc1 => if b then .ok true hc1 else k sl hc1
theorem w_one {o : BoolOp} (ha : PT X a (bI g W ft)) : PW X (.BoolOp o [a] pos) (bI g W ft) := by
  cases o with
  | And => exact pw_and1 ha
  | Or => exact pw_or1 ha
theorem w_and {rest : List Expr} (ha : PT X a (bI g W ft)) (hb : PW X (.BoolOp .And (b :: rest) pos) (bI g W fu)) : PW X (.BoolOp .And (a :: b :: rest) pos) (bI g W (andT ft fu)) := by
  refine pw_imp (pw_and ha hb) fun σ H Q ⟨z, sl, hc, hs, st, h⟩ => ?_
  refine bI.mono (OutT.thenT (f := ft) hs st h) fun b H1 ⟨z1, hc1, x1, hs1, st1, o1⟩ => ?_
  cases b with
  | true => simp only [if_true] at o1 ⊢; exact ⟨z1, sl, hc1, hs1, st1, o1⟩
  | false => simp only [Bool.false_eq_true, if_false] at o1 ⊢; exact o1 z1 H1 (.refl z1 H1) st1
theorem w_or {rest : List Expr} (ha : PT X a (bI g W ft)) (hb : PW X (.BoolOp .Or (b :: rest) pos) (bI g W fu)) : PW X (.BoolOp .Or (a :: b :: rest) pos) (bI g W (orT ft fu)) := by
  refine pw_imp (pw_or ha hb) fun σ H Q ⟨z, sl, hc, hs, st, h⟩ => ?_
  refine bI.mono (OutT.thenT (f := ft) hs st h) fun b H1 ⟨z1, hc1, x1, hs1, st1, o1⟩ => ?_
  cases b with
  | true => simp only [if_true] at o1 ⊢; exact o1 z1 H1 (.refl z1 H1) st1
  | false => simp only [Bool.false_eq_true, if_false] at o1 ⊢; exact ⟨z1, sl, hc1, hs1, st1, o1⟩
theorem t_bool {o : BoolOp} {vs : List Expr} (h : PW X (.BoolOp o vs pos) (bI g W ft)) : PT X (.BoolOp o vs pos) (bI g W ft) := PW.pt h
/-! ### and, or, not, if as values (all but the last a bool) -/
def andE (fa fb : Sl → Hc → Res D) : Sl → Hc → Res D := fun sl hc => (fa sl hc).bind fun d hc1 => match d with
  | .bl true => fb sl hc1
  | .bl false => .ok (.bl false) hc1
  | _ => .bad
def orE (fa fb : Sl → Hc → Res D) : Sl → Hc → Res D := fun sl hc => (fa sl hc).bind fun d hc1 => match d with
  | .bl true => .ok (.bl true) hc1
  | .bl false => fb sl hc1
  | _ => .bad
def notE (fa : Sl → Hc → Res D) : Sl → Hc → Res D := fun sl hc => (fa sl hc).bind fun d hc1 => match d with
  | .bl b => .ok (.bl (!b)) hc1
  | _ => .bad
theorem e_one {o : BoolOp} (ha : PE X a (tI g W fa)) : PE X (.BoolOp o [a] pos) (tI g W fa) := pe_one ha
theorem e_and {rest : List Expr} (ha : PE X a (tI g W fa)) (hb : PE X (.BoolOp .And (b :: rest) pos) (tI g W fb)) : PE X (.BoolOp .And (a :: b :: rest) pos) (tI g W (andE fa fb)) := by
  refine pe_imp (pe_and ha hb) fun σ H Q ⟨z, sl, hc, hs, st, h⟩ => ?_
  refine tI.mono (OutE.thenE (f := fa) hs st h) fun v H1 ⟨z1, d1, hc1, x1, hs1, st1, r1, o1⟩ => ?_
  cases r1 with
  | bl b =>
    refine ⟨b, rfl, ?_⟩
    cases b with
    | true => simp only [if_true]; exact ⟨z1, sl, hc1, hs1, st1, o1⟩
    | false => simp only [Bool.false_eq_true, if_false]; exact o1 z1 H1 _ (.refl z1 H1) st1 (.bl false)
  | _ => exact o1.elim
theorem e_or {rest : List Expr} (ha : PE X a (tI g W fa)) (hb : PE X (.BoolOp .Or (b :: rest) pos) (tI g W fb)) : PE X (.BoolOp .Or (a :: b :: rest) pos) (tI g W (orE fa fb)) := by
  refine pe_imp (pe_or ha hb) fun σ H Q ⟨z, sl, hc, hs, st, h⟩ => ?_
  refine tI.mono (OutE.thenE (f := fa) hs st h) fun v H1 ⟨z1, d1, hc1, x1, hs1, st1, r1, o1⟩ => ?_
  cases r1 with
  | bl b =>
    refine ⟨b, rfl, ?_⟩
    cases b with
    | true => simp only [if_true]; exact o1 z1 H1 _ (.refl z1 H1) st1 (.bl true)
    | false => simp only [Bool.false_eq_true, if_false]; exact ⟨z1, sl, hc1, hs1, st1, o1⟩
  | _ => exact o1.elim
theorem e_not (ha : PE X a (tI g W fa)) : PE X (.UnaryOp .Not a pos) (tI g W (notE fa)) := by
  refine pe_imp (pe_not ha) fun σ H Q ⟨z, sl, hc, hs, st, h⟩ => ?_
  refine tI.mono (OutE.thenE (f := fa) hs st h) fun v H1 ⟨z1, d1, hc1, x1, hs1, st1, r1, o1⟩ => ?_
  cases r1 with
  | bl b => exact ⟨b, rfl, o1 z1 H1 _ (.refl z1 H1) st1 (.bl _)⟩
  | _ => exact o1.elim
def ifE (t : Sl → Hc → Res Bool) (fa fb : Sl → Hc → Res D) : Sl → Hc → Res D := fun sl hc => (t sl hc).bind fun b hc1 => if b then fa sl hc1 else fb sl hc1
theorem e_ife (ht : PT X c (bI g W ft)) (ha : PE X a (tI g W fa)) (hb : PE X b (tI g W fb)) : PE X (.IfExp c a b pos) (tI g W (ifE ft fa fb)) := by
  refine pe_imp (pe_ifExp ht ha hb) fun σ H Q ⟨z, sl, hc, hs, st, h⟩ => ?_
  refine bI.mono (OutE.thenT (f := ft) hs st h) fun b H1 ⟨z1, hc1, x1, hs1, st1, o1⟩ => ?_
  cases b with
  | true => simp only [if_true] at o1 ⊢; exact ⟨z1, sl, hc1, hs1, st1, o1⟩
  | false => simp only [Bool.false_eq_true, if_false] at o1 ⊢; exact ⟨z1, sl, hc1, hs1, st1, o1⟩
end
end Bo

set_option Elab.async false
set_option linter.all false
set_option maxRecDepth 100000
set_option maxHeartbeats 2000000
set_option autoImplicit false
/-! Bo3: operators by values. -/
namespace Bo
open PySem PySem.Spec L2

/-! ### data -/
mutual
def toPy : D → Option PyData
  | .non => some .none
  | .bl b => some (.bool b)
  | .int i => some (.int i)
  | .str x => some (.str x)
  | .lst ds => (toPys ds).map .list
  | .kl ds => (toPys ds).map .list
  | .tup ds => (toPys ds).map .tuple
  | _ => none
def toPys : List D → Option (List PyData)
  | [] => some []
  | d :: ds => (toPy d).bind fun p => (toPys ds).map (p :: ·)
end
/-- a numbered list is read, too -/
def toPy1 (hc : Hc) (d : D) : Option PyData := match d with
  | .loc n => (match hc.get n with
    | some (.lst ds) => (toPys ds).map .list
    | _ => none)
  | d => toPy d
section
variable {g : Gx} {z : Fz} {H : Hp} {hc : Hc}
mutual
theorem toPy_dp (sub : ∀ a o, z.F a = some o → H a = some o) : ∀ {d : D} {v : V} {p : PyData}, RelD g z d v → toPy d = some p → Dp g.K H v p
  | _, _, _, .non, e => by simp [toPy] at e; subst e; exact .non
  | _, _, _, .bl b, e => by simp [toPy] at e; subst e; exact .bl b
  | _, _, _, .int b, e => by simp [toPy] at e; subst e; exact .int b
  | _, _, _, .str b, e => by simp [toPy] at e; subst e; exact .str b
  | .lst ds, _, _, .lst h r, e => by
    simp only [toPy, Option.map_eq_some_iff] at e
    obtain ⟨ps, e1, rfl⟩ := e
    exact .lst (.inl (Rd.mono sub h)) (toPys_dp sub r e1)
  | .kl ds, _, _, .kl h r, e => by
    simp only [toPy, Option.map_eq_some_iff] at e
    obtain ⟨ps, e1, rfl⟩ := e
    exact .lst (SqL.mono sub h) (toPys_dp sub r e1)
  | .tup ds, _, _, .tup h r, e => by
    simp only [toPy, Option.map_eq_some_iff] at e
    obtain ⟨ps, e1, rfl⟩ := e
    exact .tup (SqT.mono sub h) (toPys_dp sub r e1)
  | _, _, _, .dct h l r, e => by simp [toPy] at e
  | _, _, _, .loc h, e => by simp [toPy] at e
  | _, _, _, .fn h, e => by simp [toPy] at e
  | _, _, _, .ty h, e => by simp [toPy] at e
  | _, _, _, .ex h, e => by simp [toPy] at e
theorem toPys_dp (sub : ∀ a o, z.F a = some o → H a = some o) : ∀ {ds : List D} {vs : List V} {ps : List PyData}, RelDs g z ds vs → toPys ds = some ps → DpAll g.K H vs ps
  | _, _, _, .nil, e => by simp [toPys] at e; subst e; exact .nil
  | d :: ds, _, _, .cons h r, e => by
    simp only [toPys, Option.bind_eq_some_iff, Option.map_eq_some_iff] at e
    obtain ⟨p, e1, ps, e2, rfl⟩ := e
    exact .cons (toPy_dp sub h e1) (toPys_dp sub r e2)
end
theorem StR.data (st : StR g z H hc) {d : D} {v : V} {p : PyData} (r : RelD g z d v) (e : toPy1 hc d = some p) : Dp g.K H v p := by
  cases r with
  | loc h =>
    rename_i n a
    unfold toPy1 at e
    cases q : hc.get n with
    | none => simp [q] at e
    | some o =>
      cases o with
      | lst es =>
        simp only [q, Option.map_eq_some_iff] at e
        obtain ⟨ps, e1, rfl⟩ := e
        obtain ⟨b, h1, h2, xs, h3, h4⟩ := st.obj n _ q
        rw [h] at h1; cases h1
        exact .lst (SqL.of h3) (toPys_dp st.sub h4 e1)
      | ins c fs => simp [q] at e
      | dct ks es => simp [q] at e
  | non => exact toPy_dp st.sub .non e
  | bl b => exact toPy_dp st.sub (.bl b) e
  | int b => exact toPy_dp st.sub (.int b) e
  | str b => exact toPy_dp st.sub (.str b) e
  | lst h q => exact toPy_dp st.sub (.lst h q) e
  | kl h q => exact toPy_dp st.sub (.kl h q) e
  | tup h q => exact toPy_dp st.sub (.tup h q) e
  | dct h l q => exact toPy_dp st.sub (.dct h l q) e
  | fn h => exact toPy_dp (z := z) st.sub (.fn h) e
  | ty h => exact toPy_dp (z := z) st.sub (.ty h) e
  | ex h => exact toPy_dp (z := z) st.sub (.ex h) e
end

/-! ### the operators -/
def addD (_ : Hc) : D → D → Option D
  | .int i, .int j => some (.int (i + j))
  | .str x, .str y => if x.length + y.length ≤ sizeLine then some (.str (x ++ y)) else none
  | .lst xs, .lst ys => if xs.length + ys.length ≤ sizeLine then some (.lst (xs ++ ys)) else none
  | .tup xs, .tup ys => if xs.length + ys.length ≤ sizeLine then some (.tup (xs ++ ys)) else none
  | _, _ => none
def subD (_ : Hc) : D → D → Option D
  | .int i, .int j => some (.int (i - j))
  | _, _ => none
def small64 (i : Int) : Bool := decide (-(2 ^ 64) < i) && decide (i < 2 ^ 64)
def mulD (_ : Hc) : D → D → Option D
  | .int i, .int j => if small64 i || small64 j then some (.int (i * j)) else none
  | _, _ => none
def fdivD (_ : Hc) : D → D → Option D
  | .int i, .int j => if decide (0 < j) && decide (j < 1073741824) then some (.int (i / j)) else none
  | _, _ => none
def modD (_ : Hc) : D → D → Option D
  | .int i, .int j => if 0 < j then some (.int (i % j)) else none
  | _, _ => none
def powD (_ : Hc) : D → D → Option D
  | .int i, .int j => if decide (0 ≤ j) && (decide (j ≤ 1000000) && decide (i.natAbs < 2 ^ 64)) then some (.int (i ^ j.toNat)) else none
  | _, _ => none
/-- scalars by themselves, all else as data -/
def eqD (hc : Hc) (d e : D) : Option Bool := match d, e with
  | .int i, .int j => some (decide (i = j))
  | .str x, .str y => some (decide (x = y))
  | .bl x, .bl y => some (decide (x = y))
  | .non, .non => some true
  | .non, .int _ | .int _, .non | .non, .bl _ | .bl _, .non | .non, .str _ | .str _, .non | .int _, .str _ | .str _, .int _ | .bl _, .str _ | .str _, .bl _ => some false
  | d, e => match toPy1 hc d, toPy1 hc e with
    | some p, some q => if SeqAt.shaped p && SeqAt.shaped q then some (PyData.eqv p q) else none
    | _, _ => none
def eqO (hc : Hc) (d e : D) : Option D := (eqD hc d e).map .bl
def neO (hc : Hc) (d e : D) : Option D := (eqD hc d e).map fun b => .bl (!b)
def ltS (x y : Str) : Bool := decide (x.cps.toList < y.cps.toList)
def ltO (_ : Hc) : D → D → Option D
  | .int i, .int j => some (.bl (decide (i < j)))
  | .str x, .str y => some (.bl (ltS x y))
  | _, _ => none
def leO (_ : Hc) : D → D → Option D
  | .int i, .int j => some (.bl (decide (i ≤ j)))
  | .str x, .str y => some (.bl (!ltS y x))
  | _, _ => none
def gtO (_ : Hc) : D → D → Option D
  | .int i, .int j => some (.bl (decide (j < i)))
  | .str x, .str y => some (.bl (ltS y x))
  | _, _ => none
def geO (_ : Hc) : D → D → Option D
  | .int i, .int j => some (.bl (decide (j ≤ i)))
  | .str x, .str y => some (.bl (!ltS x y))
  | _, _ => none
def isO (_ : Hc) : D → D → Option D
  | .non, .non => some (.bl true)
  | .bl a, .bl b => some (.bl (decide (a = b)))
  | .non, _ => none
  | _, .non => some (.bl false)
  | _, _ => none
def isnO (_ : Hc) : D → D → Option D
  | .non, .non => some (.bl false)
  | .bl a, .bl b => some (.bl (!decide (a = b)))
  | .non, _ => none
  | _, .non => some (.bl true)
  | _, _ => none
/-- one sign in a text; an item in a list or tuple -/
def inD (hc : Hc) (d e : D) : Option Bool := match d, e with
  | .str x, .str y => (match x.cps.toList with
    | [c] => some (decide (c ∈ y.cps.toList))
    | _ => none)
  | d, .tup es => (match toPy1 hc d, toPys es with
    | some p, some qs => if SeqAt.shaped p && SeqAt.shaped (.tuple qs) then some (qs.any fun q => PyData.eqv q p) else none
    | _, _ => none)
  | d, e => (match toPy1 hc d, toPy1 hc e with
    | some p, some (.list qs) => if SeqAt.shaped p && SeqAt.shaped (.list qs) then some (qs.any fun q => PyData.eqv q p) else none
    | _, _ => none)
def inO (hc : Hc) (d e : D) : Option D := (inD hc d e).map .bl
def ninO (hc : Hc) (d e : D) : Option D := (inD hc d e).map fun b => .bl (!b)

section
variable {X : Cx} {g : Gx} {W : WX} {k : Nat}
/-- a plain answer -/
theorem plain {z : Fz} {H : Hp} {hc : Hc} {r : D} {v : V} {Q : VK} (st : StR g z H hc) (q : ∀ z' H' v, Ext z H z' H' → StR g z' H' hc → RelD g z' r v → Q v H') (rv : RelD g z r v) : Q v H := q z H v (.refl z H) st rv
theorem Rd.lists {pins : List (Addr × Obj)} {σ : St} {H : Hp} {s : Shared} {a : Addr} {xs : List V} (I : Inv X pins σ H s) (h : Rd H a (.lst xs)) :
    xs.length ≤ sizeLine ∧ ∃ (its : List Value) (n : Nat), Vals xs its ∧ s.heap.get? a = some { cls := .type "list", data := .seq its.toArray n } := h.ok I.hok
theorem o_add (c : Ct X g W k) : OpR X (binaryOp .Add) (rP g addD) := by
  intro pins s σ H x y v u Q I rx ry ⟨z, hc, d, e, r, st, r1, r2, er, q⟩
  have hK := c.hK
  cases r1 with
  | int i => cases r2 with
    | int j => cases er; exact op_add pins s σ H _ _ v u Q I rx ry ⟨i, j, rfl, rfl, plain st q (.int _)⟩
    | _ => cases er
  | str i => cases r2 with
    | str j =>
      simp only [addD] at er
      split at er
      · rename_i hl
        cases er; exact op_add_str pins s σ H _ _ v u Q I rx ry ⟨i, j, rfl, rfl, hl, plain st q (.str _)⟩
      · cases er
    | _ => cases er
  | lst h1 q1 => cases r2 with
    | lst h2 q2 =>
      rename_i a xs ds b ys es
      simp only [addD] at er
      split at er
      · rename_i hl
        cases er
        cases rx
        cases ry
        obtain ⟨_, its, n, rv, e1⟩ := Rd.lists I (Rd.mono st.sub h1)
        obtain ⟨_, its2, n2, rv2, e2⟩ := Rd.lists I (Rd.mono st.sub h2)
        have hz : xs.length + ys.length ≤ sizeLine := by rw [← q1.length, ← q2.length]; exact hl
        have l1 := rv.length
        have l2 := rv2.length
        refine PySem.P.add_list e1 e2 ?_ (by rw [List.size_toArray, List.size_toArray]; omega)
        have ea : its.toArray ++ its2.toArray = (its ++ its2).toArray := by simp
        rw [ea]
        obtain ⟨z2, x2, s2, r2⟩ := st.newLst I.fresh (q1.append q2)
        exact ⟨.ref _, _, I.lnew (t' := s.toks) (rv.append rv2) (by rw [List.length_append]; omega), rfl, q _ _ _ x2 s2 r2⟩
      · cases er
    | _ => cases er
  | tup h1 q1 => cases r2 with
    | tup h2 q2 =>
      rename_i a xs ds b ys es
      simp only [addD] at er
      split at er
      · rename_i hl
        cases er
        refine op_catA pins s σ H _ _ v u Q I rx ry ⟨a, b, xs, ys, rfl, rfl, by rw [hK]; exact SqT.mono st.sub h1, by rw [hK]; exact SqT.mono st.sub h2, by rw [← q1.length, ← q2.length]; exact hl, fun e => ?_, fun _ e => ?_, fun _ _ p hp => ?_⟩
        · subst e
          cases q1
          exact plain st q (.tup h2 q2)
        · subst e
          cases q2
          rw [List.append_nil] at q
          exact plain st q (.tup h1 q1)
        · obtain ⟨z2, x2, s2, r2⟩ := st.newTup hp (q1.append q2)
          exact q _ _ _ x2 s2 r2
      · cases er
    | _ => cases er
  | _ => cases r2 <;> cases er
/-- two ints -/
theorem twoInts {z : Fz} {d e r : D} {x y : V} {f : Int → Int → Option D} {op : D → D → Option D} (r1 : RelD g z d x) (r2 : RelD g z e y) (er : op d e = some r) (h : ∀ d e r, op d e = some r → ∃ i j, d = .int i ∧ e = .int j ∧ f i j = some r) :
    ∃ i j, x = .int i ∧ y = .int j ∧ f i j = some r := by
  obtain ⟨i, j, rfl, rfl, e⟩ := h d e r er
  cases r1
  cases r2
  exact ⟨i, j, rfl, rfl, e⟩
theorem o_sub : OpR X (binaryOp .Sub) (rP g subD) := by
  intro pins s σ H x y v u Q I rx ry ⟨z, hc, d, e, r, st, r1, r2, er, q⟩
  obtain ⟨i, j, rfl, rfl, ef⟩ := twoInts (f := fun i j => some (.int (i - j))) r1 r2 er fun d e r h => by
    cases d <;> cases e <;> first | (cases h; exact ⟨_, _, rfl, rfl, rfl⟩) | cases h
  cases ef
  exact op_sub pins s σ H _ _ v u Q I rx ry ⟨i, j, rfl, rfl, plain st q (.int _)⟩
theorem o_mul : OpR X (binaryOp .Mult) (rP g mulD) := by
  intro pins s σ H x y v u Q I rx ry ⟨z, hc, d, e, r, st, r1, r2, er, q⟩
  obtain ⟨i, j, rfl, rfl, ef⟩ := twoInts (f := fun i j => if small64 i || small64 j then some (.int (i * j)) else none) r1 r2 er fun d e r h => by
    cases d <;> cases e <;> first | exact ⟨_, _, rfl, rfl, h⟩ | cases h
  split at ef
  · rename_i hl
    cases ef
    refine op_mul pins s σ H _ _ v u Q I rx ry ⟨i, j, rfl, rfl, ?_, plain st q (.int _)⟩
    simp only [small64, Bool.or_eq_true, Bool.and_eq_true, decide_eq_true_eq] at hl
    exact hl
  · cases ef
theorem o_fdiv : OpR X (binaryOp .FloorDiv) (rP g fdivD) := by
  intro pins s σ H x y v u Q I rx ry ⟨z, hc, d, e, r, st, r1, r2, er, q⟩
  obtain ⟨i, j, rfl, rfl, ef⟩ := twoInts (f := fun i j => if decide (0 < j) && decide (j < 1073741824) then some (.int (i / j)) else none) r1 r2 er fun d e r h => by
    cases d <;> cases e <;> first | exact ⟨_, _, rfl, rfl, h⟩ | cases h
  split at ef
  · rename_i hl
    cases ef
    refine op_fdiv pins s σ H _ _ v u Q I rx ry ⟨i, j, rfl, rfl, ?_, plain st q (.int _)⟩
    simp only [Bool.and_eq_true, decide_eq_true_eq] at hl
    exact hl
  · cases ef
theorem o_mod : OpR X (binaryOp .Mod) (rP g modD) := by
  intro pins s σ H x y v u Q I rx ry ⟨z, hc, d, e, r, st, r1, r2, er, q⟩
  obtain ⟨i, j, rfl, rfl, ef⟩ := twoInts (f := fun i j => if 0 < j then some (.int (i % j)) else none) r1 r2 er fun d e r h => by
    cases d <;> cases e <;> first | exact ⟨_, _, rfl, rfl, h⟩ | cases h
  split at ef
  · rename_i hl
    cases ef
    exact op_mod pins s σ H _ _ v u Q I rx ry ⟨i, j, rfl, rfl, hl, plain st q (.int _)⟩
  · cases ef
theorem o_pow : OpR X (binaryOp .Pow) (rP g powD) := by
  intro pins s σ H x y v u Q I rx ry ⟨z, hc, d, e, r, st, r1, r2, er, q⟩
  obtain ⟨i, j, rfl, rfl, ef⟩ := twoInts (f := fun i j => if decide (0 ≤ j) && (decide (j ≤ 1000000) && decide (i.natAbs < 2 ^ 64)) then some (.int (i ^ j.toNat)) else none) r1 r2 er fun d e r h => by
    cases d <;> cases e <;> first | exact ⟨_, _, rfl, rfl, h⟩ | cases h
  split at ef
  · rename_i hl
    cases ef
    refine op_pow pins s σ H _ _ v u Q I rx ry ⟨i, j, rfl, rfl, ?_, plain st q (.int _)⟩
    simp only [Bool.and_eq_true, decide_eq_true_eq] at hl
    exact hl
  · cases ef
end
/-! ### comparisons -/
section
variable {X : Cx} {g : Gx} {W : WX} {k : Nat}
/-- what eqD says of two related values -/
theorem eqD_cases {z : Fz} {H : Hp} {hc : Hc} {d e : D} {x y : V} {b : Bool} (st : StR g z H hc) (r1 : RelD g z d x) (r2 : RelD g z e y) (er : eqD hc d e = some b) :
    (scal x y = true ∧ b = decide (x = y)) ∨ ∃ p q, Dp g.K H x p ∧ Dp g.K H y q ∧ SeqAt.shaped p = true ∧ SeqAt.shaped q = true ∧ b = PyData.eqv p q := by
  have deep : ∀ (h : (match toPy1 hc d, toPy1 hc e with
    | some p, some q => if SeqAt.shaped p && SeqAt.shaped q then some (PyData.eqv p q) else none
    | _, _ => none) = some b), ∃ p q, Dp g.K H x p ∧ Dp g.K H y q ∧ SeqAt.shaped p = true ∧ SeqAt.shaped q = true ∧ b = PyData.eqv p q := fun h => by
    cases e1 : toPy1 hc d with
    | none => rw [e1] at h; cases h
    | some p =>
      cases e2 : toPy1 hc e with
      | none => rw [e1, e2] at h; cases h
      | some q =>
        rw [e1, e2] at h
        simp only at h
        split at h
        · rename_i hs
          cases h
          rw [Bool.and_eq_true] at hs
          exact ⟨p, q, st.data r1 e1, st.data r2 e2, hs.1, hs.2, rfl⟩
        · cases h
  cases r1 <;> cases r2 <;> first
    | (refine .inr (deep ?_); exact er)
    | (cases er; exact .inl ⟨rfl, by simp⟩)
    | (cases er; exact .inl ⟨rfl, rfl⟩)
theorem o_eq (c : Ct X g W k) : OpR X (compareOp .Eq) (rP g eqO) := by
  intro pins s σ H x y v u Q I rx ry ⟨z, hc, d, e, r, st, r1, r2, er, q⟩
  simp only [eqO, Option.map_eq_some_iff] at er
  obtain ⟨b, er, rfl⟩ := er
  rcases eqD_cases st r1 r2 er with ⟨h1, rfl⟩ | ⟨p, p', h1, h2, h3, h4, rfl⟩
  · exact op_eq pins s σ H x y v u Q I rx ry ⟨h1, plain st q (.bl _)⟩
  · exact op_eqD c.room.units pins s σ H x y v u Q I rx ry ⟨p, p', by rw [c.hK]; exact h1, by rw [c.hK]; exact h2, h3, h4, plain st q (.bl _)⟩
theorem o_ne (c : Ct X g W k) : OpR X (compareOp .NotEq) (rP g neO) := by
  intro pins s σ H x y v u Q I rx ry ⟨z, hc, d, e, r, st, r1, r2, er, q⟩
  simp only [neO, Option.map_eq_some_iff] at er
  obtain ⟨b, er, rfl⟩ := er
  rcases eqD_cases st r1 r2 er with ⟨h1, rfl⟩ | ⟨p, p', h1, h2, h3, h4, rfl⟩
  · exact op_ne pins s σ H x y v u Q I rx ry ⟨h1, plain st q (.bl _)⟩
  · exact op_neD c.room.units pins s σ H x y v u Q I rx ry ⟨p, p', by rw [c.hK]; exact h1, by rw [c.hK]; exact h2, h3, h4, plain st q (.bl _)⟩
theorem o_lt : OpR X (compareOp .Lt) (rP g ltO) := by
  intro pins s σ H x y v u Q I rx ry ⟨z, hc, d, e, r, st, r1, r2, er, q⟩
  cases r1 with
  | int i => cases r2 with
    | int j => cases er; exact op_lt pins s σ H _ _ v u Q I rx ry ⟨i, j, rfl, rfl, plain st q (.bl _)⟩
    | _ => cases er
  | str i => cases r2 with
    | str j => cases er; exact op_lt_str pins s σ H _ _ v u Q I rx ry ⟨i, j, rfl, rfl, plain st q (.bl _)⟩
    | _ => cases er
  | _ => cases r2 <;> cases er
theorem o_le : OpR X (compareOp .LtE) (rP g leO) := by
  intro pins s σ H x y v u Q I rx ry ⟨z, hc, d, e, r, st, r1, r2, er, q⟩
  cases r1 with
  | int i => cases r2 with
    | int j => cases er; exact op_le pins s σ H _ _ v u Q I rx ry ⟨i, j, rfl, rfl, plain st q (.bl _)⟩
    | _ => cases er
  | str i => cases r2 with
    | str j => cases er; exact op_le_str pins s σ H _ _ v u Q I rx ry ⟨i, j, rfl, rfl, plain st q (.bl _)⟩
    | _ => cases er
  | _ => cases r2 <;> cases er
theorem o_gt : OpR X (compareOp .Gt) (rP g gtO) := by
  intro pins s σ H x y v u Q I rx ry ⟨z, hc, d, e, r, st, r1, r2, er, q⟩
  cases r1 with
  | int i => cases r2 with
    | int j => cases er; exact op_gt pins s σ H _ _ v u Q I rx ry ⟨i, j, rfl, rfl, plain st q (.bl _)⟩
    | _ => cases er
  | str i => cases r2 with
    | str j => cases er; exact op_gt_str pins s σ H _ _ v u Q I rx ry ⟨i, j, rfl, rfl, plain st q (.bl _)⟩
    | _ => cases er
  | _ => cases r2 <;> cases er
theorem o_ge : OpR X (compareOp .GtE) (rP g geO) := by
  intro pins s σ H x y v u Q I rx ry ⟨z, hc, d, e, r, st, r1, r2, er, q⟩
  cases r1 with
  | int i => cases r2 with
    | int j => cases er; exact op_ge pins s σ H _ _ v u Q I rx ry ⟨i, j, rfl, rfl, plain st q (.bl _)⟩
    | _ => cases er
  | str i => cases r2 with
    | str j => cases er; exact op_ge_str pins s σ H _ _ v u Q I rx ry ⟨i, j, rfl, rfl, plain st q (.bl _)⟩
    | _ => cases er
  | _ => cases r2 <;> cases er
theorem o_is : OpR X (compareOp .Is) (rP g isO) := by
  intro pins s σ H x y v u Q I rx ry ⟨z, hc, d, e, r, st, r1, r2, er, q⟩
  cases r2 with
  | non =>
    have h : r = .bl (decide (x = .non)) := by
      cases r1 <;> first | (cases er; simp) | (cases er; rfl)
    subst h
    exact op_isN pins s σ H _ _ v u Q I rx ry ⟨rfl, plain st q (.bl _)⟩
  | bl j => cases r1 with
    | bl i => cases er; exact op_isBl pins s σ H _ _ v u Q I rx ry ⟨i, j, rfl, rfl, plain st q (.bl _)⟩
    | _ => cases er
  | _ => cases r1 <;> cases er
theorem o_isn : OpR X (compareOp .IsNot) (rP g isnO) := by
  intro pins s σ H x y v u Q I rx ry ⟨z, hc, d, e, r, st, r1, r2, er, q⟩
  cases r2 with
  | non =>
    have h : r = .bl (!decide (x = .non)) := by
      cases r1 <;> first | (cases er; simp) | (cases er; rfl)
    subst h
    exact op_notN pins s σ H _ _ v u Q I rx ry ⟨rfl, plain st q (.bl _)⟩
  | bl j => cases r1 with
    | bl i => cases er; exact op_notBl pins s σ H _ _ v u Q I rx ry ⟨i, j, rfl, rfl, plain st q (.bl _)⟩
    | _ => cases er
  | _ => cases r1 <;> cases er
end
end Bo

set_option Elab.async false
set_option linter.all false
set_option maxRecDepth 100000
set_option maxHeartbeats 2000000
set_option autoImplicit false
/-! Bo4: in, subscripts, slices, built-ins. -/
namespace Bo
open PySem PySem.Spec L2

section
variable {X : Cx} {g : Gx} {W : WX} {k : Nat}
theorem room65 (c : Ct X g W k) : X.A.units + 65 < cLine := by have := c.room.un; omega
theorem roomIn (c : Ct X g W k) {p : PyData} {qs : List PyData} (h : SeqAt.shaped p = true) : X.A.units + 1 + min (PyData.depthAll qs) p.depth < cLine := by
  have h1 := SeqAt.depth_of_shaped h
  have h2 := room65 c
  have h3 : min (PyData.depthAll qs) p.depth ≤ p.depth := Nat.min_le_right _ _
  omega
theorem inD_cases {z : Fz} {H : Hp} {hc : Hc} {d e : D} {x y : V} {b : Bool} (st : StR g z H hc) (r1 : RelD g z d x) (r2 : RelD g z e y) (er : inD hc d e = some b) :
    (∃ (c : Nat) (t : Str), x = .str ⟨#[c]⟩ ∧ y = .str t ∧ b = decide (c ∈ t.cps.toList)) ∨
    (∃ p qs, Dp g.K H x p ∧ Dp g.K H y (.list qs) ∧ SeqAt.shaped p = true ∧ SeqAt.shaped (.list qs) = true ∧ b = qs.any fun q => PyData.eqv q p) ∨
    ∃ p qs, Dp g.K H x p ∧ Dp g.K H y (.tuple qs) ∧ SeqAt.shaped p = true ∧ SeqAt.shaped (.tuple qs) = true ∧ b = qs.any fun q => PyData.eqv q p := by
  have lists : ∀ (h : (match toPy1 hc d, toPy1 hc e with
    | some p, some (.list qs) => if SeqAt.shaped p && SeqAt.shaped (.list qs) then some (qs.any fun q => PyData.eqv q p) else none
    | _, _ => none) = some b), ∃ p qs, Dp g.K H x p ∧ Dp g.K H y (.list qs) ∧ SeqAt.shaped p = true ∧ SeqAt.shaped (.list qs) = true ∧ b = qs.any fun q => PyData.eqv q p := fun h => by
    cases e1 : toPy1 hc d with
    | none => rw [e1] at h; cases h
    | some p =>
      cases e2 : toPy1 hc e with
      | none => rw [e1, e2] at h; cases h
      | some q =>
        rw [e1, e2] at h
        cases q with
        | list qs =>
          simp only at h
          split at h
          · rename_i hs
            cases h
            rw [Bool.and_eq_true] at hs
            exact ⟨p, qs, st.data r1 e1, st.data r2 e2, hs.1, hs.2, rfl⟩
          · cases h
        | _ => cases h
  cases r2 with
  | tup h2 q2 =>
    rename_i a xs es
    have er' : (match toPy1 hc d, toPys es with
      | some p, some qs => if SeqAt.shaped p && SeqAt.shaped (.tuple qs) then some (qs.any fun q => PyData.eqv q p) else none
      | _, _ => none) = some b := by cases d <;> exact er
    refine .inr (.inr ?_)
    cases e1 : toPy1 hc d with
    | none => rw [e1] at er'; cases er'
    | some p =>
      cases e2 : toPys es with
      | none => rw [e1, e2] at er'; cases er'
      | some qs =>
        rw [e1, e2] at er'
        simp only at er'
        split at er'
        · rename_i hs
          cases er'
          rw [Bool.and_eq_true] at hs
          exact ⟨p, qs, st.data r1 e1, st.data (.tup h2 q2) (by simp [toPy1, toPy, e2]), hs.1, hs.2, rfl⟩
        · cases er'
  | str t =>
    cases r1 with
    | str u =>
      refine .inl ?_
      simp only [inD] at er
      split at er
      · rename_i c hc'
        cases er
        refine ⟨c, t, ?_, rfl, rfl⟩
        obtain ⟨⟨cs⟩⟩ := u
        simp only at hc'
        subst hc'
        rfl
      · cases er
    | _ => exact .inr (.inl (lists er))
  | _ => exact .inr (.inl (lists (by cases d <;> exact er)))
theorem o_in (c : Ct X g W k) : OpR X (compareOp .In) (rP g inO) := by
  intro pins s σ H x y v u Q I rx ry ⟨z, hc, d, e, r, st, r1, r2, er, q⟩
  simp only [inO, Option.map_eq_some_iff] at er
  obtain ⟨b, er, rfl⟩ := er
  rcases inD_cases st r1 r2 er with ⟨a, t, rfl, rfl, rfl⟩ | ⟨p, qs, h1, h2, h3, h4, rfl⟩ | ⟨p, qs, h1, h2, h3, h4, rfl⟩
  · exact op_in_sign pins s σ H _ _ v u Q I rx ry ⟨a, t, rfl, rfl, plain st q (.bl _)⟩
  · rw [← c.hK] at h1 h2
    obtain ⟨as, ra⟩ := Dp.reads I p x v h1 rx
    obtain ⟨bs, rb⟩ := Dp.reads I (.list qs) y u h2 ry
    exact SeqAt.in_list_reads rb ra (SeqAt.canLay_of_shaped h4) (SeqAt.canLay_of_shaped h3) (roomIn c h3) ⟨.bl _, H, I, rfl, plain st q (.bl _)⟩
  · rw [← c.hK] at h1 h2
    obtain ⟨as, ra⟩ := Dp.reads I p x v h1 rx
    obtain ⟨bs, rb⟩ := Dp.reads I (.tuple qs) y u h2 ry
    exact SeqAt.in_tuple_reads rb ra (SeqAt.canLay_of_shaped h4) (SeqAt.canLay_of_shaped h3) (roomIn c h3) ⟨.bl _, H, I, rfl, plain st q (.bl _)⟩
theorem o_nin (c : Ct X g W k) : OpR X (compareOp .NotIn) (rP g ninO) := by
  intro pins s σ H x y v u Q I rx ry ⟨z, hc, d, e, r, st, r1, r2, er, q⟩
  simp only [ninO, Option.map_eq_some_iff] at er
  obtain ⟨b, er, rfl⟩ := er
  rcases inD_cases st r1 r2 er with ⟨a, t, rfl, rfl, rfl⟩ | ⟨p, qs, h1, h2, h3, h4, rfl⟩ | ⟨p, qs, h1, h2, h3, h4, rfl⟩
  · exact op_notIn_sign pins s σ H _ _ v u Q I rx ry ⟨a, t, rfl, rfl, plain st q (.bl _)⟩
  · rw [← c.hK] at h1 h2
    obtain ⟨as, ra⟩ := Dp.reads I p x v h1 rx
    obtain ⟨bs, rb⟩ := Dp.reads I (.list qs) y u h2 ry
    exact SeqAt.notIn_list_reads rb ra (SeqAt.canLay_of_shaped h4) (SeqAt.canLay_of_shaped h3) (roomIn c h3) ⟨.bl _, H, I, rfl, plain st q (.bl _)⟩
  · rw [← c.hK] at h1 h2
    obtain ⟨as, ra⟩ := Dp.reads I p x v h1 rx
    obtain ⟨bs, rb⟩ := Dp.reads I (.tuple qs) y u h2 ry
    exact SeqAt.notIn_tuple_reads rb ra (SeqAt.canLay_of_shaped h4) (SeqAt.canLay_of_shaped h3) (roomIn c h3) ⟨.bl _, H, I, rfl, plain st q (.bl _)⟩
end

/-! ### subscripts -/
def ixD (hc : Hc) (d e : D) : Option D := match e with
  | .int i => (match d with
    | .tup ds => atI ds i
    | .str x => if x.length ≤ sizeLine then (atI x.cps.toList i).map fun c => .str ⟨#[c]⟩ else none
    | d => (hc.lst? d).bind fun ds => atI ds i)
  | _ => none
theorem RelDs.atI {g : Gx} {z : Fz} {ds : List D} {xs : List V} {i : Int} {d : D} (r : RelDs g z ds xs) (e : L2.atI ds i = some d) : ∃ v, L2.atI xs i = some v ∧ RelD g z d v := by
  unfold L2.atI at e ⊢
  rw [r.length] at e
  cases q : ixN xs.length i with
  | none => rw [q] at e; cases e
  | some j =>
    rw [q] at e
    exact r.get e
section
variable {X : Cx} {g : Gx} {W : WX} {k : Nat}
theorem o_ix (c : Ct X g W k) : IxR X (rP g ixD) := by
  intro value slice pins s σ H x y v u Q I rx ry ⟨z, hc, d, e, r, st, r1, r2, er, q⟩ hs
  cases r2 with
  | int i =>
    have lists : ∀ (h : ((hc.lst? d).bind fun ds => L2.atI ds i) = some r), wpAny (model X.prog X.w) X.A (PyProof.Rows.subscriptTail value slice v u) (EP X pins σ Q) X.xe s := fun h => by
      obtain ⟨ds, h1, h2⟩ := Option.bind_eq_some_iff.mp h
      obtain ⟨a, xs, rfl, hl, rl⟩ := st.list h1 r1
      obtain ⟨w, h3, h4⟩ := rl.atI h2
      exact ix_list value slice pins s σ H _ _ v u Q I rx ry ⟨a, xs, i, w, rfl, rfl, by rw [c.hK]; exact hl, h3, plain st q h4⟩ hs
    cases r1 with
    | tup h1 q1 =>
      obtain ⟨w, h3, h4⟩ := q1.atI er
      exact ix_tup value slice pins s σ H _ _ v u Q I rx ry ⟨_, _, i, w, rfl, rfl, by rw [c.hK]; exact SqT.mono st.sub h1, h3, plain st q h4⟩ hs
    | str t =>
      simp only [ixD] at er
      split at er
      · rename_i hl
        obtain ⟨cc, h1, rfl⟩ := Option.map_eq_some_iff.mp er
        exact ix_str value slice pins s σ H _ _ v u Q I rx ry ⟨t, i, cc, rfl, rfl, hl, h1, plain st q (.str _)⟩ hs
      · cases er
    | lst h1 q1 => exact lists er
    | kl h1 q1 => exact lists er
    | loc h1 => exact lists er
    | _ => cases er
  | _ => cases er
theorem e_ix {a b : Expr} {fa fb : Sl → Hc → Res D} {pos : Pos} (c : Ct X g W k) (ha : PE X a (tI g W fa)) (hb : PE X b (tI g W fb)) (hs : PlainIx b := by intro _ _; rfl) : PE X (.Subscript a b pos) (tI g W (opE ixD fa fb)) :=
  pe_imp (pe_ix (o_ix c) ha hb hs) fun _ _ _ => read_op
end

/-! ### slices -/
def cutD (ds : List D) (lo hi : Option Int) : List D := (ds.drop (HT.sIx ds.length 0 lo)).take (HT.sIx ds.length ds.length hi - HT.sIx ds.length 0 lo)
def slD (hc : Hc) (d : D) (lo hi : Option Int) : Option D := match d with
  | .tup ds => some (.tup (cutD ds lo hi))
  | .str x => if x.length ≤ sizeLine then some (.str (cutS x lo hi)) else none
  | d => (hc.lst? d).map fun ds => .lst (cutD ds lo hi)
theorem RelDs.cut {g : Gx} {z : Fz} {ds : List D} {xs : List V} (r : RelDs g z ds xs) (lo hi : Option Int) : RelDs g z (cutD ds lo hi) (cutV xs lo hi) := by
  unfold cutD cutV
  rw [r.length]
  exact (r.drop _).take _
/-- a part of a slice: left out, or an int -/
def nO : Sl → Hc → Res (Option Int) := fun _ hc => .ok none hc
def sO (f : Sl → Hc → Res D) : Sl → Hc → Res (Option Int) := fun sl hc => (f sl hc).bind fun d hc1 => match d with
  | .int i => .ok (some i) hc1
  | _ => .bad
def slE (fa : Sl → Hc → Res D) (fl fh : Sl → Hc → Res (Option Int)) : Sl → Hc → Res D := fun sl hc => (fa sl hc).bind fun d hc1 => (fl sl hc1).bind fun lo hc2 => (fh sl hc2).bind fun hi hc3 => lift (slD hc3 d lo hi) hc3
def OutO (g : Gx) (W : WX) (z : Fz) (H : Hp) (σ : St) (r : Res (Option Int)) (Q : Option Int → Hp → Prop) : Prop := match r with
  | .ok b hc => ∀ z' H', Ext z H z' H' → StR g z' H' hc → Q b H'
  | .exc c hc => ∀ z' H', Ext z H z' H' → StR g z' H' hc → W (.ref (g.fa c)) none σ H'
  | .bad => False
def oI (g : Gx) (W : WX) (f : Sl → Hc → Res (Option Int)) : TO := fun σ H Q => ∃ z sl hc, Sv g z sl σ ∧ StR g z H hc ∧ OutO g W z H σ (f sl hc) Q
theorem oI.mono {g : Gx} {W : WX} {f : Sl → Hc → Res (Option Int)} {σ : St} {H : Hp} {Q Q' : Option Int → Hp → Prop} (h : oI g W f σ H Q) (k : ∀ v H, Q v H → Q' v H) : oI g W f σ H Q' := by
  obtain ⟨z, sl, hc, hs, st, h⟩ := h
  refine ⟨z, sl, hc, hs, st, ?_⟩
  revert h
  cases f sl hc with
  | ok d h => exact fun o z' H' x s => k _ _ (o z' H' x s)
  | exc c h => exact fun o => o
  | bad => exact fun o => o
theorem OutE.thenO {g : Gx} {W : WX} {z : Fz} {H : Hp} {σ : St} {sl : Sl} {hc : Hc} {f : Sl → Hc → Res (Option Int)} {k : Option Int → Hc → Res D} {Q : VK} (hs : Sv g z sl σ) (st : StR g z H hc) (h : OutE g W z H σ ((f sl hc).bind k) Q) :
    oI g W f σ H fun b H1 => ∃ z1 hc1, Ext z H z1 H1 ∧ Sv g z1 sl σ ∧ StR g z1 H1 hc1 ∧ OutE g W z1 H1 σ (k b hc1) Q := by
  refine ⟨z, sl, hc, hs, st, ?_⟩
  cases e : f sl hc with
  | ok d hc1 => rw [e] at h; exact fun z' H' x s => ⟨z', hc1, x, hs.ext x, s, OutE.ext h x⟩
  | exc c hc1 => rw [e] at h; exact h
  | bad => rw [e] at h; exact h
theorem po_imp {X : Cx} {e : Option Expr} {t u : TO} (h : PO X e t) (k : ∀ σ H Q, u σ H Q → t σ H Q) : PO X e u := ⟨fun pins s σ H Q I hu => h.run pins s σ H Q I (k σ H Q hu)⟩
section
variable {X : Cx} {g : Gx} {W : WX} {k : Nat} {a : Expr} {fa : Sl → Hc → Res D} {fl fh : Sl → Hc → Res (Option Int)} {lo hi : Option Expr} {pos p2 : Pos}
theorem p_no : PO X none (oI g W nO) := po_imp po_none fun σ H Q ⟨z, sl, hc, hs, st, h⟩ => h z H (.refl z H) st
theorem p_some (ha : PE X a (tI g W fa)) : PO X (some a) (oI g W (sO fa)) := by
  refine po_imp (po_some ha) fun σ H Q ⟨z, sl, hc, hs, st, h⟩ => ?_
  refine ⟨z, sl, hc, hs, st, ?_⟩
  unfold sO at h
  revert h
  cases fa sl hc with
  | ok d hc1 =>
    intro h z' H' v x s r
    cases r with
    | int i => exact ⟨i, rfl, h z' H' x s⟩
    | _ => exact h.elim
  | exc c h => exact fun o => o
  | bad => exact fun o => o
theorem o_sl (c : Ct X g W k) : SlR X (fun x lo hi H Q => ∃ z hc d r, StR g z H hc ∧ RelD g z d x ∧ slD hc d lo hi = some r ∧ ∀ z' H' v, Ext z H z' H' → StR g z' H' hc → RelD g z' r v → Q v H') := by
  intro pins s σ H x v vl vu lo hi sl Q I rx hs pl pu ⟨z, hc, d, r, st, r1, er, q⟩
  have lists : ∀ (h : ((hc.lst? d).map fun ds => D.lst (cutD ds lo hi)) = some r), ∃ a xs, x = .ref a ∧ SqL X.K H a xs ∧ ∀ p, H p = none → Q (.ref p) (upd H p (.lst (cutV xs lo hi))) := fun h => by
    obtain ⟨ds, h1, rfl⟩ := Option.map_eq_some_iff.mp h
    obtain ⟨a, xs, rfl, hl, rl⟩ := st.list h1 r1
    refine ⟨a, xs, rfl, by rw [c.hK]; exact hl, fun p hp => ?_⟩
    obtain ⟨z2, x2, s2, r2⟩ := st.newLst hp (rl.cut lo hi)
    exact q _ _ _ x2 s2 r2
  cases r1 with
  | tup h1 q1 =>
    cases er
    refine sl_tupA pins s σ H _ v vl vu lo hi sl Q I rx hs pl pu ⟨_, _, rfl, by rw [c.hK]; exact SqT.mono st.sub h1, fun e => ?_, fun _ p hp => ?_⟩
    · rename_i aa xs ds
      have e2 : cutD ds lo hi = ds := by
        unfold cutD
        rw [q1.length, e.1, e.2, List.drop_zero, Nat.sub_zero, ← q1.length, List.take_length]
      rw [e2] at q
      exact plain st q (.tup h1 q1)
    · obtain ⟨z2, x2, s2, r2⟩ := st.newTup hp (q1.cut lo hi)
      exact q _ _ _ x2 s2 r2
  | str t =>
    simp only [slD] at er
    split at er
    · rename_i hl
      cases er
      exact sl_str pins s σ H _ v vl vu lo hi sl Q I rx hs pl pu ⟨t, rfl, hl, plain st q (.str _)⟩
    · cases er
  | lst h1 q1 => exact sl_list pins s σ H _ v vl vu lo hi sl Q I rx hs pl pu (lists er)
  | kl h1 q1 => exact sl_list pins s σ H _ v vl vu lo hi sl Q I rx hs pl pu (lists er)
  | loc h1 => exact sl_list pins s σ H _ v vl vu lo hi sl Q I rx hs pl pu (lists er)
  | _ => cases er
theorem e_sl (c : Ct X g W k) (ha : PE X a (tI g W fa)) (hl : PO X lo (oI g W fl)) (hh : PO X hi (oI g W fh)) : PE X (.Subscript a (.Slice lo hi none p2) pos) (tI g W (slE fa fl fh)) := by
  refine pe_imp (pe_slice (o_sl c) ha hl hh) fun σ H Q ⟨z, sl, hc, hs, st, h⟩ => ?_
  refine tI.mono (OutE.thenE (f := fa) hs st h) fun v H1 ⟨z1, d1, hc1, x1, hs1, st1, r1, o1⟩ => ?_
  refine oI.mono (OutE.thenO (f := fl) hs1 st1 o1) fun l H2 ⟨z2, hc2, x2, hs2, st2, o2⟩ => ?_
  refine oI.mono (OutE.thenO (f := fh) hs2 st2 o2) fun u H3 ⟨z3, hc3, x3, hs3, st3, o3⟩ => ?_
  obtain ⟨rr, er, hq⟩ := o3.lift
  exact ⟨z3, hc3, d1, rr, st3, (r1.mono x2.le).mono x3.le, er, hq⟩
end

/-! ### built-ins called by their names -/
section
variable {X : Cx} {g : Gx} {W : WX} {k : Nat} {a : Expr} {es : List Expr} {fs : Sl → Hc → Res (List D)} {x : Str} {p pos : Pos} {id T : String} {op : Hc → List D → Option D}
theorem read_bl {σ : St} {H : Hp} {Q : VK} (h : tI g W (blE op fs) σ H Q) : tCB (rA g op) (aI g W fs) σ H Q := by
  obtain ⟨z, sl, hc, hs, st, h⟩ := h
  refine aI.mono (OutE.thenA (f := fs) hs st h) fun vs H1 ⟨z1, ds, hc1, x1, hs1, st1, r1, o1⟩ => ?_
  obtain ⟨rr, er, hq⟩ := o1.lift
  exact ⟨z1, hc1, ds, rr, st1, r1, er, hq⟩
theorem e_blt (h : CallR X (.builtin id) (rA g op)) (hm : X.mg x = none) (ha : PA X (a :: es) (aI g W fs)) (hg : Gl X x := by rfl) (hv : bootBuiltins x = some (.builtin id) := by decide +kernel) (hn : x ≠ "__name__" := by decide) (hdb : (x == ("__debug__" : Str)) = false := by decide)
    (he : starEach (a :: es) X.env = (false, eval a X.env) :: starEach es X.env := by rfl) (hpl : (backTo pos (starEach es X.env)).any (·.1) = false := by rfl) : PE X (.Call (.Name x p) (a :: es) [] pos) (tI g W (blE op fs)) :=
  pe_imp (pe_callB h hg hm hv ha hn hdb he hpl) fun _ _ _ => read_bl
theorem e_bty (h : CallR X (.type T) (rA g op)) (hm : X.mg x = none) (ha : PA X (a :: es) (aI g W fs)) (hg : Gl X x := by rfl) (hv : bootBuiltins x = some (.type T) := by decide +kernel) (hn : x ≠ "__name__" := by decide) (hdb : (x == ("__debug__" : Str)) = false := by decide)
    (he : starEach (a :: es) X.env = (false, eval a X.env) :: starEach es X.env := by rfl) (hpl : (backTo pos (starEach es X.env)).any (·.1) = false := by rfl) : PE X (.Call (.Name x p) (a :: es) [] pos) (tI g W (blE op fs)) :=
  pe_imp (pe_callTy h hg hm hv ha hn hdb he hpl) fun _ _ _ => read_bl
end
def lenD (hc : Hc) : List D → Option D
  | [.str x] => if x.length ≤ sizeLine then some (.int x.length) else none
  | [.tup ds] => some (.int ds.length)
  | [d] => (hc.lst? d).map fun ds => .int ds.length
  | _ => none
def intD (_ : Hc) : List D → Option D
  | [.int i] => some (.int i)
  | _ => none
def listD (hc : Hc) : List D → Option D
  | [.tup ds] => some (.lst ds)
  | [d] => (hc.lst? d).map .lst
  | _ => none
def tupleD (hc : Hc) : List D → Option D
  | [.tup ds] => some (.tup ds)
  | [d] => (hc.lst? d).map .tup
  | _ => none
def bools : List D → Option (List Bool)
  | [] => some []
  | .bl b :: r => (bools r).map (b :: ·)
  | _ => none
def allD (_ : Hc) : List D → Option D
  | [.lst ds] => (bools ds).map fun bs => .bl (bs.all id)
  | _ => none
def anyD (_ : Hc) : List D → Option D
  | [.lst ds] => (bools ds).map fun bs => .bl (bs.any id)
  | _ => none
theorem bools_rel {g : Gx} {z : Fz} : ∀ {ds : List D} {xs : List V} {bs : List Bool}, RelDs g z ds xs → bools ds = some bs → xs = bs.map V.bl
  | _, _, _, .nil, e => by cases e; rfl
  | _, _, _, .cons (.bl b) r, e => by
    obtain ⟨cs, h1, rfl⟩ := Option.map_eq_some_iff.mp (show (bools _).map (b :: ·) = some _ from e)
    rw [bools_rel r h1]; rfl
  | _, _, _, .cons .non _, e => nomatch e
  | _, _, _, .cons (.int _) _, e => nomatch e
  | _, _, _, .cons (.str _) _, e => nomatch e
  | _, _, _, .cons (.lst _ _) _, e => nomatch e
  | _, _, _, .cons (.tup _ _) _, e => nomatch e
  | _, _, _, .cons (.dct _ _ _) _, e => nomatch e
  | _, _, _, .cons (.loc _) _, e => nomatch e
  | _, _, _, .cons (.fn _) _, e => nomatch e
  | _, _, _, .cons (.ty _) _, e => nomatch e
section
variable {X : Cx} {g : Gx} {W : WX} {k : Nat}
/-- one argument -/
theorem one {g : Gx} {z : Fz} {ds : List D} {xs : List V} {d : D} (r : RelDs g z ds xs) (e : ds = [d]) : ∃ v, xs = [v] ∧ RelD g z d v := by
  subst e
  cases r with
  | cons h t => cases t; exact ⟨_, rfl, h⟩
theorem b_len (c : Ct X g W k) : CallR X (.builtin "len") (rA g lenD) := by
  intro pins s σ H xs us Q I r ⟨z, hc, ds, rr, st, rd, er, q⟩
  cases rd with
  | nil => cases er
  | cons h t => cases t with
    | cons _ _ => cases h <;> cases er
    | nil =>
      refine call_len pins s σ H _ us Q I r ?_
      have lists : ∀ {d : D} {v : V} (h : RelD g z d v) (e : ((hc.lst? d).map fun ds => D.int ds.length) = some rr), ∃ x n, [v] = [x] ∧ LenV X.K x H n ∧ Q (.int n) H := fun {d v} h e => by
        obtain ⟨es, h1, rfl⟩ := Option.map_eq_some_iff.mp e
        obtain ⟨a, ys, rfl, hl, rl⟩ := st.list h1 h
        exact ⟨_, ys.length, rfl, .inl ⟨ys, by rw [c.hK]; exact hl, rfl⟩, by rw [← rl.length]; exact plain st q (.int _)⟩
      cases h with
      | str x =>
        simp only [lenD] at er
        split at er
        · rename_i hl
          cases er
          exact ⟨_, x.length, rfl, ⟨hl, rfl⟩, plain st q (.int _)⟩
        · cases er
      | tup h1 q1 =>
        cases er
        exact ⟨_, _, rfl, .inr ⟨_, by rw [c.hK]; exact SqT.mono st.sub h1, rfl⟩, by rw [← q1.length]; exact plain st q (.int _)⟩
      | lst h1 q1 => exact lists (.lst h1 q1) er
      | kl h1 q1 => exact lists (.kl h1 q1) er
      | loc h1 => exact lists (.loc h1) er
      | _ => cases er
theorem b_int : CallR X (.type "int") (rA g intD) := by
  intro pins s σ H xs us Q I r ⟨z, hc, ds, rr, st, rd, er, q⟩
  cases rd with
  | nil => cases er
  | cons h t => cases t with
    | cons _ _ => cases h <;> cases er
    | nil =>
      refine call_int1 pins s σ H _ us Q I r ?_
      cases h with
      | int i => cases er; exact .inl ⟨i, rfl, plain st q (.int _)⟩
      | _ => cases er
theorem b_list (c : Ct X g W k) : CallR X (.type "list") (rA g listD) := by
  intro pins s σ H xs us Q I r ⟨z, hc, ds, rr, st, rd, er, q⟩
  cases rd with
  | nil => cases er
  | cons h t => cases t with
    | cons _ _ => cases h <;> cases er
    | nil =>
      refine call_list_of pins s σ H _ us Q I r ?_
      have lists : ∀ {d : D} {v : V} (h : RelD g z d v) (e : (hc.lst? d).map D.lst = some rr), ∃ p ys, [v] = [.ref p] ∧ (SqL X.K H p ys ∨ SqT X.K H p ys) ∧ ∀ l, H l = none → Q (.ref l) (upd H l (.lst ys)) := fun {d v} h e => by
        obtain ⟨es, h1, rfl⟩ := Option.map_eq_some_iff.mp e
        obtain ⟨a, ys, rfl, hl, rl⟩ := st.list h1 h
        refine ⟨a, ys, rfl, .inl (by rw [c.hK]; exact hl), fun p hp => ?_⟩
        obtain ⟨z2, x2, s2, r2⟩ := st.newLst hp rl
        exact q _ _ _ x2 s2 r2
      cases h with
      | tup h1 q1 =>
        cases er
        refine ⟨_, _, rfl, .inr (by rw [c.hK]; exact SqT.mono st.sub h1), fun p hp => ?_⟩
        obtain ⟨z2, x2, s2, r2⟩ := st.newLst hp q1
        exact q _ _ _ x2 s2 r2
      | lst h1 q1 => exact lists (.lst h1 q1) er
      | kl h1 q1 => exact lists (.kl h1 q1) er
      | loc h1 => exact lists (.loc h1) er
      | _ => cases er
theorem b_tuple (c : Ct X g W k) : CallR X (.type "tuple") (rA g tupleD) := by
  intro pins s σ H xs us Q I r ⟨z, hc, ds, rr, st, rd, er, q⟩
  cases rd with
  | nil => cases er
  | cons h t => cases t with
    | cons _ _ => cases h <;> cases er
    | nil =>
      refine call_tuple_of pins s σ H _ us Q I r ?_
      have lists : ∀ {d : D} {v : V} (h : RelD g z d v) (e : (hc.lst? d).map D.tup = some rr), ∃ p ys, [v] = [.ref p] ∧ ((SqL X.K H p ys ∧ ∀ l, H l = none → Q (.ref l) (upd H l (.tup ys))) ∨ (SqT X.K H p ys ∧ Q (.ref p) H)) := fun {d v} h e => by
        obtain ⟨es, h1, rfl⟩ := Option.map_eq_some_iff.mp e
        obtain ⟨a, ys, rfl, hl, rl⟩ := st.list h1 h
        refine ⟨a, ys, rfl, .inl ⟨by rw [c.hK]; exact hl, fun p hp => ?_⟩⟩
        obtain ⟨z2, x2, s2, r2⟩ := st.newTup hp rl
        exact q _ _ _ x2 s2 r2
      cases h with
      | tup h1 q1 =>
        cases er
        exact ⟨_, _, rfl, .inr ⟨by rw [c.hK]; exact SqT.mono st.sub h1, plain st q (.tup h1 q1)⟩⟩
      | lst h1 q1 => exact lists (.lst h1 q1) er
      | kl h1 q1 => exact lists (.kl h1 q1) er
      | loc h1 => exact lists (.loc h1) er
      | _ => cases er
theorem b_all (c : Ct X g W k) : CallR X (.builtin "all") (rA g allD) := by
  intro pins s σ H xs us Q I r ⟨z, hc, ds, rr, st, rd, er, q⟩
  cases rd with
  | nil => cases er
  | cons h t => cases t with
    | cons _ _ => cases h <;> cases er
    | nil =>
      refine cr_all c.calm pins s σ H _ us Q I r ?_
      cases h with
      | lst h1 q1 =>
        obtain ⟨bs, e1, rfl⟩ := Option.map_eq_some_iff.mp (show (bools _).map _ = some rr from er)
        have e2 := bools_rel q1 e1
        subst e2
        exact ⟨_, bs, rfl, .inl (Rd.mono st.sub h1), plain st q (.bl _)⟩
      | _ => cases er
theorem b_any (c : Ct X g W k) : CallR X (.builtin "any") (rA g anyD) := by
  intro pins s σ H xs us Q I r ⟨z, hc, ds, rr, st, rd, er, q⟩
  cases rd with
  | nil => cases er
  | cons h t => cases t with
    | cons _ _ => cases h <;> cases er
    | nil =>
      refine cr_any c.calm pins s σ H _ us Q I r ?_
      cases h with
      | lst h1 q1 =>
        obtain ⟨bs, e1, rfl⟩ := Option.map_eq_some_iff.mp (show (bools _).map _ = some rr from er)
        have e2 := bools_rel q1 e1
        subst e2
        exact ⟨_, bs, rfl, .inl (Rd.mono st.sub h1), plain st q (.bl _)⟩
      | _ => cases er
end
end Bo

set_option Elab.async false
set_option linter.all false
set_option maxRecDepth 100000
set_option maxHeartbeats 2000000
set_option autoImplicit false
/-! Bo5: isinstance, repr, join, displays of dicts. -/
namespace Bo
open PySem PySem.Spec L2

/-! ### isinstance -/
inductive Ty where
  | non | bl | int | str | lst | tup | dct
  deriving DecidableEq
def Ty.nm : Ty → String
  | .non => "NoneType" | .bl => "bool" | .int => "int" | .str => "str" | .lst => "list" | .tup => "tuple" | .dct => "dict"
def tyOf (hc : Hc) : D → Option Ty
  | .non => some .non | .bl _ => some .bl | .int _ => some .int | .str _ => some .str | .lst _ => some .lst | .tup _ => some .tup | .dct _ _ => some .dct
  | .loc n => (match hc.get n with
    | some (.lst _) => some .lst
    | _ => none)
  | _ => none
def Ty.isA (a b : Ty) : Bool := decide (a = b) || (decide (a = .bl) && decide (b = .int))
theorem kit_isA (K : PySem.W.Frag) (a b : Ty) (hb : b ≠ .non) : PySem.W.kitOne K (.type a.nm) (.type b.nm) = some (a.isA b) := by
  refine kit_ty ?_
  cases b with
  | non => exact absurd rfl hb
  | bl => cases a <;> decide +kernel
  | int => cases a <;> decide +kernel
  | str => cases a <;> decide +kernel
  | lst => cases a <;> decide +kernel
  | tup => cases a <;> decide +kernel
  | dct => cases a <;> decide +kernel
section
variable {X : Cx} {g : Gx} {W : WX} {k : Nat} {z : Fz} {H : Hp} {hc : Hc}
theorem StR.tyX (st : StR g z H hc) {d : D} {v : V} {t : Ty} (r : RelD g z d v) (e : tyOf hc d = some t) : TyX g.K H v (.type t.nm) := by
  cases r with
  | non => cases e; exact .base .non
  | bl b => cases e; exact .base (.bl b)
  | int b => cases e; exact .base (.int b)
  | str b => cases e; exact .base (.str b)
  | lst h q =>
    cases e
    rcases h with h | ⟨o, h⟩
    · exact .base (.lst (st.sub _ _ h))
    · exact .base (.frz (st.sub _ _ h))
  | kl h q => cases e
  | tup h q =>
    cases e
    rcases h with (h | ⟨o, h⟩) | ⟨o, its, n, h1, h2, _⟩
    · exact .base (.tup (st.sub _ _ h))
    · exact .fTuple (st.sub _ _ h)
    · exact .kTuple h1 h2
  | dct h l q => cases e; exact .base (.dK (st.sub _ _ h))
  | loc h =>
    rename_i n a
    unfold tyOf at e
    cases q : hc.get n with
    | none => simp [q] at e
    | some o =>
      cases o with
      | lst es =>
        simp [q] at e
        subst e
        obtain ⟨b, h1, h2, xs, h3, h4⟩ := st.obj n _ q
        rw [h] at h1; cases h1
        exact .base (.lst h3)
      | ins c fs => simp [q] at e
      | dct ks es => simp [q] at e
  | fn i => cases e
  | ty i => cases e
  | ex h => cases e
def isiD (b : Ty) (hc : Hc) (d : D) : Option D := (tyOf hc d).map fun t => .bl (t.isA b)
/-- isinstance(x, T), T a built-in class -/
theorem e_isi {a : Expr} {fa : Sl → Hc → Res D} {x : Str} {p p2 pos : Pos} (b : Ty) (c : Ct X g W k) (ha : PE X a (tI g W fa)) (hm : X.mg "isinstance" = none) (hm2 : X.mg x = none) (hb : b ≠ .non := by decide) (hg : Gl X "isinstance" := by rfl) (hg2 : Gl X x := by rfl)
    (hv2 : bootBuiltins x = some (.type b.nm) := by decide +kernel) (hn : x ≠ "__name__" := by decide) (hd : (x == ("__debug__" : Str)) = false := by decide)
    (hs : starEach [a, .Name x p2] X.env = (false, eval a X.env) :: starEach [.Name x p2] X.env := by rfl) (he : (backTo pos (starEach [.Name x p2] X.env)).any (·.1) = false := by rfl) :
    PE X (.Call (.Name "isinstance" p) [a, .Name x p2] [] pos) (tI g W (unE (isiD b) fa)) := by
  have h2 : PE X (.Name x p2) (tC (.ty b.nm)) := pe_bltn hg2 hm2 hv2 rfl hn hd
  refine pe_imp (pe_callB call_isi hg hm (by decide +kernel) (pa_cons ha (pa_cons h2 pa_nil rfl) hs) (by decide) (by decide) hs he) fun σ H Q ⟨z, sl, hc, hs, st, h⟩ => ?_
  refine tI.mono (OutE.thenE (f := fa) hs st h) fun v H1 ⟨z1, d1, hc1, x1, hs1, st1, r1, o1⟩ => ?_
  obtain ⟨rr, er, hq⟩ := o1.lift
  obtain ⟨t, e1, rfl⟩ := Option.map_eq_some_iff.mp er
  exact ⟨v, .ty b.nm, _, _, _, rfl, .ty _, by rw [c.hK]; exact st1.tyX r1 e1, kit_isA _ _ _ hb, plain st1 hq (.bl _)⟩
def isi2D (b b' : Ty) (hc : Hc) (d : D) : Option D := (tyOf hc d).map fun t => .bl (t.isA b || t.isA b')
/-- isinstance(x, (S, T)) -/
theorem e_isi2 {a : Expr} {fa : Sl → Hc → Res D} {x y : Str} {p p2 p3 pt pos : Pos} {kk : Nat} (b b' : Ty) (c : Ct X g W k) (ha : PE X a (tI g W fa)) (hm : X.mg "isinstance" = none) (hm2 : X.mg x = none) (hm3 : X.mg y = none) (hb : b ≠ .non := by decide) (hb' : b' ≠ .non := by decide) (hg : Gl X "isinstance" := by rfl) (hg2 : Gl X x := by rfl) (hg3 : Gl X y := by rfl)
    (hv2 : bootBuiltins x = some (.type b.nm) := by decide +kernel) (hv3 : bootBuiltins y = some (.type b'.nm) := by decide +kernel) (hn : x ≠ "__name__" := by decide) (hd : (x == ("__debug__" : Str)) = false := by decide) (hn3 : y ≠ "__name__" := by decide) (hd3 : (y == ("__debug__" : Str)) = false := by decide)
    (hs : starEach [a, .Tuple [.Name x p2, .Name y p3] kk pt] X.env = (false, eval a X.env) :: starEach [.Tuple [.Name x p2, .Name y p3] kk pt] X.env := by rfl) (he : (backTo pos (starEach [.Tuple [.Name x p2, .Name y p3] kk pt] X.env)).any (·.1) = false := by rfl) :
    PE X (.Call (.Name "isinstance" p) [a, .Tuple [.Name x p2, .Name y p3] kk pt] [] pos) (tI g W (unE (isi2D b b') fa)) := by
  have h2 : PE X (.Name x p2) (tC (.ty b.nm)) := pe_bltn hg2 hm2 hv2 rfl hn hd
  have h3 : PE X (.Name y p3) (tC (.ty b'.nm)) := pe_bltn hg3 hm3 hv3 rfl hn3 hd3
  refine pe_imp (pe_callB call_isiT hg hm (by decide +kernel) (pa_cons ha (pa_cons (pe_tup (pa_cons h2 (pa_cons h3 pa_nil rfl) rfl)) pa_nil rfl) hs) (by decide) (by decide) hs he) fun σ H Q ⟨z, sl, hc, hs, st, h⟩ => ?_
  refine tI.mono (OutE.thenE (f := fa) hs st h) fun v H1 ⟨z1, d1, hc1, x1, hs1, st1, r1, o1⟩ => ?_
  obtain ⟨rr, er, hq⟩ := o1.lift
  obtain ⟨t, e1, rfl⟩ := Option.map_eq_some_iff.mp er
  refine ⟨by show 2 ≤ sizeLine; decide, fun q hqn => ?_⟩
  obtain ⟨xx, ss⟩ := st1.alloc (o := .tup [.ty b.nm, .ty b'.nm]) hqn
  refine ⟨v, q, _, _, [.type b.nm, .type b'.nm], t.isA b || t.isA b', rfl, upd_same, .cons (.ty _) (.cons (.ty _) .nil), by rw [c.hK]; exact ss.tyX (r1.mono xx.le) e1, ?_, hq _ _ _ xx ss (.bl _)⟩
  refine kitAny_cons (kit_isA _ _ _ hb) (fun e => ?_) (fun e => by rw [e]; rfl)
  rw [e, Bool.false_or]
  exact kitAny_cons (kit_isA _ _ _ hb') (fun e => by rw [e]; exact kitAny_nil) (fun e => by rw [e])
end

/-! ### repr -/
def flatD : D → Bool
  | .non | .bl _ | .int _ | .str _ => true
  | _ => false
def keyPy : Key → PyData
  | .inl i => .int i
  | .inr x => .str x
/-- what repr reads -/
def toPyR (hc : Hc) : D → Option PyData
  | .dct ks ds => if ds.all flatD then (toPys ds).map fun ps => .dict ((ks.map keyPy).zip ps) else none
  | d => toPy1 hc d
def fitsR (p : PyData) : Bool := p.showable && (decide (p.shown.length ≤ sizeLine) && decide (p.depth ≤ 64))
def reprD (hc : Hc) (d : D) : Option D := (toPyR hc d).bind fun p => if fitsR p then some (.str p.shown) else none
theorem flat_reads {g : Gx} {z : Fz} {h : Heap} : ∀ {ds : List D} {xs : List V} {us : List Value} {ps : List PyData}, RelDs g z ds xs → Vals xs us → ds.all flatD = true → toPys ds = some ps → ReadsAll h us ps []
  | _, _, _, _, .nil, .nil, _, e => by simp [toPys] at e; subst e; exact .nil
  | d :: ds, _, _, _, .cons r rs, .cons v vs, f, e => by
    rw [List.all_cons, Bool.and_eq_true] at f
    simp only [toPys, Option.bind_eq_some_iff, Option.map_eq_some_iff] at e
    obtain ⟨p, e1, ps, e2, rfl⟩ := e
    have t := flat_reads (h := h) rs vs f.2 e2
    cases r with
    | non => simp [toPy] at e1; subst e1; cases v; exact .cons .none t
    | bl b => simp [toPy] at e1; subst e1; cases v; exact .cons (.bool b) t
    | int b => simp [toPy] at e1; subst e1; obtain ⟨tk, rfl⟩ := v; exact .cons (.int b tk) t
    | str b => simp [toPy] at e1; subst e1; obtain ⟨tk, rfl⟩ := v; exact .cons (.str b tk) t
    | lst h q => exact absurd f.1 (by simp [flatD])
    | kl h q => exact absurd f.1 (by simp [flatD])
    | tup h q => exact absurd f.1 (by simp [flatD])
    | dct h l q => exact absurd f.1 (by simp [flatD])
    | loc h => exact absurd f.1 (by simp [flatD])
    | fn i => exact absurd f.1 (by simp [flatD])
    | ty i => exact absurd f.1 (by simp [flatD])
    | ex i => exact absurd f.1 (by simp [flatD])
theorem key_reads {P : Program} {w : World} {h : Heap} : ∀ {ks : List Key} {vs : List Value} {es : List DictEntry}, Pairs (mixKind P w) es (ks.zip vs) → ks.length = vs.length → ReadsAll h (es.map (·.key)) (ks.map keyPy) [] ∧ es.map (·.val) = vs
  | [], vs, es, p, e => by
    cases vs with
    | nil => cases p; exact ⟨.nil, rfl⟩
    | cons _ _ => simp at e
  | k :: ks, vs, es, p, e => by
    cases vs with
    | nil => simp at e
    | cons v vs =>
      rw [List.zip_cons_cons] at p
      cases p with
      | cons h1 h2 t =>
        obtain ⟨a, b⟩ := key_reads (h := h) t (by simpa using e)
        refine ⟨?_, by simp [h2, b]⟩
        rcases keyIs_shape h1 with ⟨i, tk, e1, e2⟩ | ⟨x, tk, e1, e2⟩
        · simp only at e1
          subst e1
          simp only [List.map_cons, e2]
          exact .cons (.int i tk) a
        · simp only at e1
          subst e1
          simp only [List.map_cons, e2]
          exact .cons (.str x tk) a
theorem KV.zip_vals : ∀ {ks : List Key} {xs : List V} {vs : List (Key × Value)}, KV (ks.zip xs) vs → ks.length = xs.length → ∃ us, vs = ks.zip us ∧ Vals xs us
  | [], xs, vs, r, e => by
    cases xs with
    | nil => cases r; exact ⟨[], rfl, .nil⟩
    | cons _ _ => simp at e
  | k :: ks, xs, vs, r, e => by
    cases xs with
    | nil => simp at e
    | cons x xs =>
      rw [List.zip_cons_cons] at r
      cases r with
      | @cons _ b _ bs h t =>
        obtain ⟨us, e1, e2⟩ := KV.zip_vals t (by simpa using e)
        obtain ⟨b1, b2⟩ := b
        obtain ⟨h1, h2⟩ := h
        simp only at h1 h2
        subst h1
        exact ⟨b2 :: us, by rw [e1]; rfl, .cons h2 e2⟩
section
variable {X : Cx} {g : Gx} {W : WX} {k : Nat} {z : Fz} {H : Hp} {hc : Hc} {pins : List (Addr × Obj)} {σ : St} {s : Shared}
theorem reads_of (hK : X.K = g.K) (I : Inv X pins σ H s) (st : StR g z H hc) {d : D} {v : V} {u : Value} {p : PyData} (r : RelD g z d v) (rv : RelV v u) (e : toPyR hc d = some p) : ∃ as, Reads s.heap u p as ∧ (p.hasDict = true → sysModules ∉ as) := by
  have other : ∀ (e : toPy1 hc d = some p), ∃ as, Reads s.heap u p as ∧ (p.hasDict = true → sysModules ∉ as) := fun e => by
    have h1 := st.data r e
    rw [← hK] at h1
    obtain ⟨as, h2⟩ := Dp.reads I p v u h1 rv
    have nd : ∀ {v : V} {p : PyData}, Dp X.K H v p → p.hasDict = false := by
      intro v p h
      refine Dp.rec (motive_1 := fun v p _ => p.hasDict = false) (motive_2 := fun vs ps _ => PyData.hasDictAll ps = false) ?_ ?_ ?_ ?_ ?_ ?_ ?_ ?_ h
      · simp [PyData.hasDict]
      · intro b; simp [PyData.hasDict]
      · intro b; simp [PyData.hasDict]
      · intro b; simp [PyData.hasDict]
      · intro a xs ds _ _ ih; simp [PyData.hasDict, ih]
      · intro a xs ds _ _ ih; simp [PyData.hasDict, ih]
      · simp [PyData.hasDictAll]
      · intro v vs d ds _ _ h1 h2; simp [PyData.hasDictAll, h1, h2]
    exact ⟨as, h2, fun q => by rw [nd h1] at q; cases q⟩
  cases r with
  | dct h l q =>
    rename_i a ks xs ds
    simp only [toPyR] at e
    split at e
    · rename_i hf
      obtain ⟨ps, e1, rfl⟩ := Option.map_eq_some_iff.mp e
      cases rv
      obtain ⟨_, hd, vs, kv, o, es, ep, ho, hx, hdt, _, pr, _⟩ := dk_of I.hok (st.sub _ _ h)
      obtain ⟨us, rfl, rvs⟩ := KV.zip_vals kv (by rw [l, q.length])
      have hlen : ks.length = us.length := by rw [l, q.length, rvs.length]
      obtain ⟨r1, r2⟩ := key_reads (h := s.heap) pr hlen
      have r3 := flat_reads (h := s.heap) q rvs hf e1
      have hl2 : (ks.map keyPy).length = ps.length := by
        have : ∀ {us : List Value} {ps : List PyData} {as : List Addr}, ReadsAll s.heap us ps as → us.length = ps.length := by
          intro us ps as h
          exact ReadsAll.rec (motive_1 := fun _ _ _ _ => True) (motive_2 := fun us ps _ _ => us.length = ps.length) trivial (fun _ => trivial) (fun _ _ => trivial) (fun _ _ => trivial) (fun _ _ _ _ _ => trivial) (fun _ _ _ _ _ => trivial) (fun _ _ _ _ _ _ _ => trivial) rfl (fun _ _ _ ih => by simp [ih]) h
        rw [List.length_map, hlen, this r3]
      refine ⟨[a], ?_, fun _ hm => ?_⟩
      · have r4 := Reads.dict (kvs := (ks.map keyPy).zip ps) (as := []) (bs := []) ho hx.1 hdt (by rw [List.map_fst_zip (by omega)]; exact r1) (by rw [List.map_snd_zip (by omega), r2]; exact r3)
        exact r4
      · have : sysModules = a := by simpa using hm
        rw [← this] at hd
        simp at hd
    · cases e
  | non => exact other e
  | bl b => exact other e
  | int b => exact other e
  | str b => exact other e
  | lst h q => exact other e
  | kl h q => exact other e
  | tup h q => exact other e
  | loc h => exact other e
  | fn h => exact other e
  | ty h => exact other e
  | ex h => exact other e
theorem b_repr (c : Ct X g W k) : CallR X (.builtin "repr") (rA g fun hc ds => match ds with
    | [d] => reprD hc d
    | _ => none) := by
  intro pins s σ H xs us Q I r ⟨z, hc, ds, rr, st, rd, er, q⟩
  cases rd with
  | nil => cases er
  | cons h t => cases t with
    | cons _ _ => cases er
    | nil =>
      obtain ⟨p, e1, e2⟩ := Option.bind_eq_some_iff.mp er
      split at e2
      · rename_i hf
        cases e2
        cases r with
        | cons rv rn =>
          cases rn
          obtain ⟨as, h1, h2⟩ := reads_of c.hK I st h rv e1
          simp only [fitsR, Bool.and_eq_true, decide_eq_true_eq] at hf
          obtain ⟨f1, f2, f3⟩ := hf
          have fin : ∀ (h' : Heap) (u : Tok) (tk : Nat), (∀ b o, s.heap.get? b = some o → h'.get? b = some o) → EP X pins σ Q (.str p.shown u) { s with heap := h', toks := tk } := fun h' u tk kp =>
            ⟨.str p.shown, H, I.kept kp, ⟨u, rfl⟩, plain st q (.str _)⟩
          have fin' : ∀ (u : Tok) (tk : Nat), EP X pins σ Q (.str p.shown u) { s with toks := tk } := fun u tk => fin s.heap u tk fun _ _ h => h
          cases h1 with
          | none =>
            refine PySem.P.repr_of_none ?_
            simp only [PyData.shown] at fin'
            exact fin' _ _
          | bool b =>
            refine PySem.P.repr_of_bool ?_
            simp only [PyData.shown] at fin'
            exact fin' _ _
          | int i t =>
            simp only [PyData.showable, decide_eq_true_eq] at f1
            refine PySem.P.repr_of_int f1 ?_
            simp only [PyData.shown] at fin'
            exact fin' _ _
          | str x t =>
            simp only [PyData.shown] at f2 fin'
            exact PySem.P.repr_of_str (fin' _ _) f2
          | list a1 a2 a3 a4 =>
            exact repr_of_reads' (.list a1 a2 a3 a4) f1 h2 c.guards (by have := c.room.un; omega) (fun _ _ h => h) fin f2
          | tuple a1 a2 a3 a4 =>
            exact repr_of_reads' (.tuple a1 a2 a3 a4) f1 h2 c.guards (by have := c.room.un; omega) (fun _ _ h => h) fin f2
          | dict a1 a2 a3 a4 a5 =>
            exact repr_of_reads' (.dict a1 a2 a3 a4 a5) f1 h2 c.guards (by have := c.room.un; omega) (fun _ _ h => h) fin f2
      · cases e2
end
end Bo

set_option Elab.async false
set_option linter.all false
set_option maxRecDepth 100000
set_option maxHeartbeats 2000000
set_option autoImplicit false
/-! Bo6: statements, targets, loops. -/
namespace Bo
open PySem PySem.Spec L2

inductive RS where
  | nx (sl : Sl) (h : Hc) | rt (d : D) (h : Hc) | bk (sl : Sl) (h : Hc) | ct (sl : Sl) (h : Hc) | exc (c : Nat) (sl : Sl) (h : Hc) | bad
def OutS (g : Gx) (W : WX) (z : Fz) (H : Hp) (r : RS) (E : Ends) : Prop := match r with
  | .nx sl hc => ∀ z' H' σ', Ext z H z' H' → Sv g z' sl σ' → StR g z' H' hc → E.nx σ' H'
  | .rt d hc => ∀ z' H' v, Ext z H z' H' → StR g z' H' hc → RelD g z' d v → E.rt v H'
  | .bk sl hc => ∀ z' H' σ', Ext z H z' H' → Sv g z' sl σ' → StR g z' H' hc → E.bk σ' H'
  | .ct sl hc => ∀ z' H' σ', Ext z H z' H' → Sv g z' sl σ' → StR g z' H' hc → E.ct σ' H'
  | .exc c sl hc => ∀ z' H' σ', Ext z H z' H' → Sv g z' sl σ' → StR g z' H' hc → W (.ref (g.fa c)) none σ' H'
  | .bad => False
def sI (g : Gx) (W : WX) (f : Sl → Hc → RS) : TS := fun E σ H => ∃ z sl hc, Sv g z sl σ ∧ StR g z H hc ∧ OutS g W z H (f sl hc) E
/-- an expression, then a statement's end -/
def Res.toS {α : Type} (r : Res α) (sl : Sl) (k : α → Hc → RS) : RS := match r with
  | .ok a h => k a h
  | .exc c h => .exc c sl h
  | .bad => .bad
section
variable {g : Gx} {W : WX} {z z1 : Fz} {H H1 : Hp} {σ : St} {sl : Sl} {hc : Hc} {E : Ends}
theorem OutS.ext {r : RS} (h : OutS g W z H r E) (x : Ext z H z1 H1) : OutS g W z1 H1 r E := by
  cases r with
  | nx sl hc => exact fun z' H' σ' y => h z' H' σ' (x.trans y)
  | rt d hc => exact fun z' H' v y => h z' H' v (x.trans y)
  | bk sl hc => exact fun z' H' σ' y => h z' H' σ' (x.trans y)
  | ct sl hc => exact fun z' H' σ' y => h z' H' σ' (x.trans y)
  | exc c sl hc => exact fun z' H' σ' y => h z' H' σ' (x.trans y)
  | bad => exact h
theorem OutS.thenE {f : Sl → Hc → Res D} {k : D → Hc → RS} (hs : Sv g z sl σ) (st : StR g z H hc) (h : OutS g W z H ((f sl hc).toS sl k) E) :
    tI g W f σ H fun v H1 => ∃ z1 d hc1, Ext z H z1 H1 ∧ Sv g z1 sl σ ∧ StR g z1 H1 hc1 ∧ RelD g z1 d v ∧ OutS g W z1 H1 (k d hc1) E := by
  refine ⟨z, sl, hc, hs, st, ?_⟩
  cases e : f sl hc with
  | ok d hc1 => rw [e] at h; exact fun z' H' v x s r => ⟨z', d, hc1, x, hs.ext x, s, r, OutS.ext h x⟩
  | exc c hc1 => rw [e] at h; exact fun z' H' x s => h z' H' σ x (hs.ext x) s
  | bad => rw [e] at h; exact h
theorem OutS.thenT {f : Sl → Hc → Res Bool} {k : Bool → Hc → RS} (hs : Sv g z sl σ) (st : StR g z H hc) (h : OutS g W z H ((f sl hc).toS sl k) E) :
    bI g W f σ H fun b H1 => ∃ z1 hc1, Ext z H z1 H1 ∧ Sv g z1 sl σ ∧ StR g z1 H1 hc1 ∧ OutS g W z1 H1 (k b hc1) E := by
  refine ⟨z, sl, hc, hs, st, ?_⟩
  cases e : f sl hc with
  | ok d hc1 => rw [e] at h; exact fun z' H' x s => ⟨z', hc1, x, hs.ext x, s, OutS.ext h x⟩
  | exc c hc1 => rw [e] at h; exact fun z' H' x s => h z' H' σ x (hs.ext x) s
  | bad => rw [e] at h; exact h
/-- other ends -/
theorem OutS.mono {r : RS} {E' : Ends} (h : OutS g W z H r E) (h1 : ∀ σ H, E.nx σ H → E'.nx σ H) (h2 : ∀ v H, E.rt v H → E'.rt v H) (h3 : ∀ σ H, E.bk σ H → E'.bk σ H) (h4 : ∀ σ H, E.ct σ H → E'.ct σ H) : OutS g W z H r E' := by
  cases r with
  | nx sl hc => exact fun z' H' σ' y a b => h1 _ _ (h z' H' σ' y a b)
  | rt d hc => exact fun z' H' v y a b => h2 _ _ (h z' H' v y a b)
  | bk sl hc => exact fun z' H' σ' y a b => h3 _ _ (h z' H' σ' y a b)
  | ct sl hc => exact fun z' H' σ' y a b => h4 _ _ (h z' H' σ' y a b)
  | exc c sl hc => exact h
  | bad => exact h
end
/-! ### blocks, small statements -/
def nS : Sl → Hc → RS := fun sl hc => .nx sl hc
def seqS (f k : Sl → Hc → RS) : Sl → Hc → RS := fun sl hc => match f sl hc with
  | .nx sl' hc' => k sl' hc'
  | r => r
def retS (f : Sl → Hc → Res D) : Sl → Hc → RS := fun sl hc => (f sl hc).toS sl fun d hc1 => .rt d hc1
def asgS (i : Nat) (f : Sl → Hc → Res D) : Sl → Hc → RS := fun sl hc => (f sl hc).toS sl fun d hc1 => .nx (sl.set i (some d)) hc1
def exS (f : Sl → Hc → Res D) : Sl → Hc → RS := fun sl hc => (f sl hc).toS sl fun _ hc1 => .nx sl hc1
def ifS (t : Sl → Hc → Res Bool) (f k : Sl → Hc → RS) : Sl → Hc → RS := fun sl hc => (t sl hc).toS sl fun b hc1 => if b then f sl hc1 else k sl hc1
section
variable {X : Cx} {g : Gx} {W : WX} {st st2 : Stmt} {rest body els : List Stmt} {f fk : Sl → Hc → RS} {e a b : Expr} {fa fb : Sl → Hc → Res D} {ft : Sl → Hc → Res Bool} {pos : Pos}
theorem s_nil : PSs X [] (sI g W nS) := pss_imp pss_nil fun E σ H ⟨z, sl, hc, hs, s, h⟩ => h z H σ (.refl z H) hs s
theorem s_seq (h1 : PS X st (sI g W f)) (h2 : PSs X rest (sI g W fk)) : PSs X (st :: rest) (sI g W (seqS f fk)) := by
  refine pss_imp (pss_cons h1 h2) fun E σ H ⟨z, sl, hc, hs, s, h⟩ => ⟨z, sl, hc, hs, s, ?_⟩
  unfold seqS at h
  revert h
  cases f sl hc with
  | nx sl' hc' => exact fun o z' H' σ' x sv st => ⟨z', sl', hc', sv, st, OutS.ext o x⟩
  | rt d h => exact fun o => o
  | bk sl' h => exact fun o => o
  | ct sl' h => exact fun o => o
  | exc c sl' h => exact fun o => o
  | bad => exact fun o => o
theorem s_one (h1 : PS X st (sI g W f)) : PSs X [st] (sI g W f) := pss_one h1
theorem s_ret (he : PE X e (tI g W fa)) : PS X (.Return (some e) pos) (sI g W (retS fa)) := by
  refine ps_imp (ps_ret he) fun E σ H ⟨z, sl, hc, hs, s, h⟩ => ?_
  refine tI.mono (OutS.thenE (f := fa) hs s h) fun v H1 ⟨z1, d1, hc1, x1, hs1, st1, r1, o1⟩ => ?_
  exact o1 z1 H1 v (.refl z1 H1) st1 r1
theorem s_pass : PS X (.Pass pos) (sI g W nS) := ps_imp ps_pass fun E σ H ⟨z, sl, hc, hs, s, h⟩ => h z H σ (.refl z H) hs s
theorem s_expr (he : PE X e (tI g W fa)) (hw : swapsWith e none pos.line X.env = pure false := by rfl) : PS X (.Expr e pos) (sI g W (exS fa)) := by
  refine ps_imp (ps_expr he hw) fun E σ H ⟨z, sl, hc, hs, s, h⟩ => ?_
  refine tI.mono (OutS.thenE (f := fa) hs s h) fun v H1 ⟨z1, d1, hc1, x1, hs1, st1, r1, o1⟩ => ?_
  exact o1 z1 H1 σ (.refl z1 H1) hs1 st1
theorem read_asg {i : Nat} {σ : St} {H : Hp} {E : Ends} (h : sI g W (asgS i fa) E σ H) : tAsg (tI g W fa) (gName i) E σ H := by
  obtain ⟨z, sl, hc, hs, s, h⟩ := h
  refine tI.mono (OutS.thenE (f := fa) hs s h) fun v H1 ⟨z1, d1, hc1, x1, hs1, st1, r1, o1⟩ => ?_
  exact o1 z1 H1 _ (.refl z1 H1) (hs1.set r1 i) st1
theorem s_set (i : Nat) {x : Str} {p2 : Pos} (hN : X.N.Nodup) (he : PE X e (tI g W fa)) (hi : X.N[i]? = some x := by rfl) (hx : Loc X.env.scope x := by first | exact Or.inl rfl | exact Or.inr rfl) (hw : swapsWith e (some (.Name x p2)) pos.line X.env = pure false := by rfl)
    (hf : X.fn x = true ∨ X.env.scope.names.lookup x = some .local := by first | exact .inl rfl | exact .inr rfl | assumption) : PS X (.Assign [.Name x p2] e pos) (sI g W (asgS i fa)) :=
  ps_imp (ps_set hN hi hx he hw hf) fun _ _ _ => read_asg
theorem s_if (hc : PT X e (bI g W ft)) (ha : PSs X body (sI g W f)) (hb : PSs X els (sI g W fk)) : PS X (.If e body els pos) (sI g W (ifS ft f fk)) := by
  refine ps_imp (ps_if hc ha hb) fun E σ H ⟨z, sl, hc, hs, s, h⟩ => ?_
  refine bI.mono (OutS.thenT (f := ft) hs s h) fun b H1 ⟨z1, hc1, x1, hs1, st1, o1⟩ => ?_
  cases b with
  | true => simp only [if_true] at o1 ⊢; exact ⟨z1, sl, hc1, hs1, st1, o1⟩
  | false => simp only [Bool.false_eq_true, if_false] at o1 ⊢; exact ⟨z1, sl, hc1, hs1, st1, o1⟩
def brS : Sl → Hc → RS := fun sl hc => .bk sl hc
def coS : Sl → Hc → RS := fun sl hc => .ct sl hc
theorem s_break : PS X (.Break pos) (sI g W brS) := ps_imp ps_break fun E σ H ⟨z, sl, hc, hs, s, h⟩ => h z H σ (.refl z H) hs s
theorem s_continue : PS X (.Continue pos) (sI g W coS) := ps_imp ps_continue fun E σ H ⟨z, sl, hc, hs, s, h⟩ => h z H σ (.refl z H) hs s
end
/-! ### a numbered list is written -/
theorem StR.write {g : Gx} {z : Fz} {H : Hp} {hc : Hc} (st : StR g z H hc) {n : Nat} {a : Addr} {o o' : Ob} {u : HO} (h : hc.get n = some o) (hr : z.ρ n = some a) (new : ObR g z (upd H a u) a o') :
    Ext z H z (upd H a u) ∧ StR g z (upd H a u) (hc.set n o') := by
  obtain ⟨b, e1, e2, e3⟩ := st.obj n o h
  rw [hr] at e1; cases e1
  have hF : ∀ b v, z.F b = some v → b ≠ a := fun b v q w => by subst w; rw [e2] at q; cases q
  refine ⟨⟨.refl z, fun b v q k => ?_, fun b v q => ?_, fun b v q k => (by rw [q] at k; cases k), fun m b q k => (by rw [q] at k; cases k)⟩, ⟨fun b v q => ?_, st.inj, fun m b q => ?_, st.fresh, fun m v q => ?_⟩⟩
  · rw [upd_ne (fun w => k n (by rw [w]; exact hr))]; exact q
  · by_cases w : b = a
    · subst w; exact ⟨u, upd_same⟩
    · exact ⟨v, by rw [upd_ne w]; exact q⟩
  · rw [upd_ne (hF b v q)]; exact st.sub b v q
  · by_cases w : b = a
    · subst w; exact ⟨u, upd_same⟩
    · obtain ⟨v, hv⟩ := st.live m b q
      exact ⟨v, by rw [upd_ne w]; exact hv⟩
  · rw [Hc.get_set] at q
    by_cases w : m = n
    · subst w
      rw [if_pos rfl, h] at q
      cases q
      exact ⟨a, hr, e2, new⟩
    · rw [if_neg w] at q
      obtain ⟨b, k1, k2, k3⟩ := st.obj m v q
      have nb : b ≠ a := fun w2 => by subst w2; exact w (st.inj m n _ k1 hr)
      refine ⟨b, k1, k2, ?_⟩
      cases v with
      | lst ds =>
        obtain ⟨xs, e1, e2⟩ := k3
        exact ⟨xs, by rw [upd_ne nb]; exact e1, e2⟩
      | ins c fs =>
        obtain ⟨dx, vs, e1, e2⟩ := k3
        exact ⟨dx, vs, by rw [upd_ne nb]; exact e1, e2⟩
      | dct ks es =>
        obtain ⟨vs, e1, el, e2⟩ := k3
        exact ⟨vs, by rw [upd_ne nb]; exact e1, el, e2⟩
theorem StR.at {g : Gx} {z : Fz} {H : Hp} {hc : Hc} (st : StR g z H hc) {n : Nat} {v : V} {ds : List D} (h : hc.get n = some (.lst ds)) (r : RelD g z (.loc n) v) : ∃ a xs, v = .ref a ∧ z.ρ n = some a ∧ H a = some (.lst xs) ∧ RelDs g z ds xs := by
  cases r with
  | loc hr =>
    obtain ⟨b, e1, e2, xs, e3, e4⟩ := st.obj n _ h
    rw [hr] at e1; cases e1
    exact ⟨_, xs, rfl, hr, e3, e4⟩
/-- o[i] = e -/
def putD (hc : Hc) (o i v : D) : Option Hc := match o, i with
  | .loc n, .int k => (match hc.get n with
    | some (.lst ds) => (ixN ds.length k).map fun j => hc.set n (.lst (ds.set j v))
    | _ => none)
  | _, _ => none
def subS (fo fi fv : Sl → Hc → Res D) : Sl → Hc → RS := fun sl hc => (fv sl hc).toS sl fun v hc1 => (fo sl hc1).toS sl fun o hc2 => (fi sl hc2).toS sl fun i hc3 => match putD hc3 o i v with
  | some hc4 => .nx sl hc4
  | none => .bad
section
variable {X : Cx} {g : Gx} {W : WX} {e o i : Expr} {fv fo fi : Sl → Hc → Res D} {pos p2 : Pos}
theorem s_sub (he : PE X e (tI g W fv)) (ho : PE X o (tI g W fo)) (hi : PE X i (tI g W fi)) (hs : swapsWithSole [.Subscript o i p2] e pos.line X.env = pure false := by rfl) (hw : swappedStores [.Subscript o i p2] e X.env = pure none := by rfl)
    (hset : ∀ u, assign (.Subscript o i p2) X.env u = (do let ov ← holding [u] (eval o X.env); let iv ← holding [u, ov] (eval i X.env); standAt p2; holding [u, ov, iv] (setItem ov iv u); release [u, ov, iv] []) := by intro _; rfl) :
    PS X (.Assign [.Subscript o i p2] e pos) (sI g W (subS fo fi fv)) := by
  refine ps_imp (ps_asg he (pg_sub ho hi set_list hset) hs hw) fun E σ H ⟨z, sl, hc, hs, s, h⟩ => ?_
  refine tI.mono (OutS.thenE (f := fv) hs s h) fun v H1 ⟨z1, d1, hc1, x1, hs1, st1, r1, o1⟩ => ?_
  refine tI.mono (OutS.thenE (f := fo) hs1 st1 o1) fun v2 H2 ⟨z2, d2, hc2, x2, hs2, st2, r2, o2⟩ => ?_
  refine tI.mono (OutS.thenE (f := fi) hs2 st2 o2) fun v3 H3 ⟨z3, d3, hc3, x3, hs3, st3, r3, o3⟩ => ?_
  have r1' := (r1.mono x2.le).mono x3.le
  have r2' := r2.mono x3.le
  cases e : putD hc3 d2 d3 d1 with
  | none => rw [e] at o3; exact o3.elim
  | some hc4 =>
    rw [e] at o3
    cases d2 with
    | loc n =>
      cases r3 with
      | int q =>
        simp only [putD] at e
        split at e
        · rename_i ds hg
          obtain ⟨j, e1, rfl⟩ := Option.map_eq_some_iff.mp e
          obtain ⟨a, xs, rfl, hr, hH, rl⟩ := st3.at hg r2'
          refine ⟨a, xs, q, j, rfl, rfl, hH, by rw [← rl.length]; exact e1, ?_⟩
          obtain ⟨xx, ss⟩ := st3.write (o' := .lst (ds.set j d1)) (u := .lst (xs.set j v)) hg hr ⟨_, upd_same, rl.set r1' j⟩
          exact o3 z3 _ σ xx hs3 ss
        · cases e
      | _ => cases e
    | _ => cases e
end
/-! ### targets -/
/-- a target: what it makes of the slots -/
def gI (g : Gx) (vs : List Nat) (ft : D → Sl → Option Sl) : TG := fun v σ H Q => ∃ z sl hc d sl', Sv g z sl σ ∧ StR g z H hc ∧ RelD g z d v ∧ ft d sl = some sl' ∧ ∀ σ', Sv g z sl' σ' → wipe σ' vs = wipe σ vs → Q σ' H
def gIs (g : Gx) (vs : List Nat) (ft : List D → Sl → Option Sl) : TGs := fun ws σ H Q => ∃ z sl hc ds sl', Sv g z sl σ ∧ StR g z H hc ∧ RelDs g z ds ws ∧ ft ds sl = some sl' ∧ ∀ σ', Sv g z sl' σ' → wipe σ' vs = wipe σ vs → Q σ' H
theorem wipe_at {σ : St} : ∀ {vs : List Nat} {i : Nat}, i ∈ vs → i < σ.length → (wipe σ vs)[i]? = some none
  | v :: vs, i, h, hl => by
    unfold wipe
    by_cases e : v = i
    · subst e
      exact List.getElem?_set_self (by rw [wipe_length]; exact hl)
    · rw [List.getElem?_set_ne e]
      rcases List.mem_cons.mp h with h | h
      · exact absurd h.symm e
      · exact wipe_at h hl
theorem wipe_set {σ : St} {vs : List Nat} {i : Nat} {o : Option V} (h : i ∈ vs) : wipe (σ.set i o) vs = wipe σ vs := by
  refine List.ext_getElem? fun j => ?_
  by_cases hj : j ∈ vs
  · by_cases hl : j < σ.length
    · rw [wipe_at hj hl, wipe_at hj (by rw [List.length_set]; exact hl)]
    · rw [List.getElem?_eq_none (by rw [wipe_length, List.length_set]; omega), List.getElem?_eq_none (by rw [wipe_length]; omega)]
  · have hn : i ≠ j := fun e => hj (e ▸ h)
    rw [wipe_out hj, wipe_out hj, List.getElem?_set_ne hn]
theorem pg_imp {X : Cx} {e : Expr} {t u : TG} (h : PG X e t) (k : ∀ v σ H Q, u v σ H Q → t v σ H Q) : PG X e u := ⟨fun pins s σ H v w Q I r hu => h.run pins s σ H v w Q I r (k v σ H Q hu)⟩
theorem pgs_imp {X : Cx} {e : List Expr} {t u : TGs} (h : PGs X e t) (k : ∀ v σ H Q, u v σ H Q → t v σ H Q) : PGs X e u := ⟨fun pins s σ H v w Q I r hu => h.run pins s σ H v w Q I r (k v σ H Q hu)⟩
def nmG (i : Nat) : D → Sl → Option Sl := fun d sl => some (sl.set i (some d))
def nilG : List D → Sl → Option Sl
  | [], sl => some sl
  | _, _ => none
def consG (f : D → Sl → Option Sl) (k : List D → Sl → Option Sl) : List D → Sl → Option Sl
  | d :: ds, sl => (f d sl).bind (k ds)
  | _, _ => none
def tupG (n : Nat) (k : List D → Sl → Option Sl) : D → Sl → Option Sl
  | .tup ds, sl => if ds.length = n then k ds sl else none
  | _, _ => none
section
variable {X : Cx} {g : Gx} {W : WX} {kk : Nat} {e : Expr} {es : List Expr} {f : D → Sl → Option Sl} {fs : List D → Sl → Option Sl} {pos : Pos} {vs : List Nat}
theorem g_name (i : Nat) {x : Str} (hN : X.N.Nodup) (hv : i ∈ vs := by decide) (hi : X.N[i]? = some x := by rfl) (hx : Loc X.env.scope x := by first | exact Or.inl rfl | exact Or.inr rfl)
    (hf : X.fn x = true ∨ X.env.scope.names.lookup x = some .local := by first | exact .inl rfl | exact .inr rfl | assumption) : PG X (.Name x pos) (gI g vs (nmG i)) := by
  refine pg_imp (pg_name hN hi hx hf) fun v σ H Q ⟨z, sl, hc, d, sl', hs, st, r, e, q⟩ => ?_
  cases e
  exact q _ (hs.set r i) (wipe_set hv)
theorem gs_nil : PGs X [] (gIs g vs nilG) := by
  refine pgs_imp pgs_nil fun v σ H Q ⟨z, sl, hc, ds, sl', hs, st, r, e, q⟩ => ?_
  cases r with
  | nil => cases e; exact ⟨rfl, q _ hs rfl⟩
  | cons _ _ => cases e
theorem gs_cons (h1 : PG X e (gI g vs f)) (h2 : PGs X es (gIs g vs fs)) (hq : (assignEach (e :: es) X.env).map (·.2) = assign e X.env :: (assignEach es X.env).map (·.2) := by rfl) : PGs X (e :: es) (gIs g vs (consG f fs)) := by
  refine pgs_imp (pgs_cons h1 h2 hq) fun v σ H Q ⟨z, sl, hc, ds, sl', hs, st, r, e, q⟩ => ?_
  cases r with
  | nil => cases e
  | cons rd rs =>
    obtain ⟨sl1, e1, e2⟩ := Option.bind_eq_some_iff.mp e
    exact ⟨_, _, rfl, z, sl, hc, _, sl1, hs, st, rd, e1, fun σ' s' w' => ⟨z, sl1, hc, _, sl', s', st, rs, e2, fun σ2 s2 w2 => q σ2 s2 (w2.trans w')⟩⟩
theorem g_tup {k n : Nat} (c : Ct X g W kk) (h : PGs X es (gIs g vs fs)) (hn : (assignEach es X.env).length = n := by rfl) (hst : (assignEach es X.env).findIdx? (·.1) = none := by rfl) : PG X (.Tuple es k pos) (gI g vs (tupG n fs)) := by
  refine pg_imp (pg_tup c.calm h hn hst) fun v σ H Q ⟨z, sl, hc, d, sl', hs, st, r, e, q⟩ => ?_
  cases r with
  | tup h1 q1 =>
    simp only [tupG] at e
    split at e
    · rename_i hl
      exact ⟨_, _, rfl, by rw [c.hK]; exact SqT.mono st.sub h1, by rw [← q1.length]; exact hl, z, sl, hc, _, sl', hs, st, q1, e, q⟩
    · cases e
  | _ => cases e
def asG (ft : D → Sl → Option Sl) (f : Sl → Hc → Res D) : Sl → Hc → RS := fun sl hc => (f sl hc).toS sl fun d hc1 => match ft d sl with
  | some sl' => .nx sl' hc1
  | none => .bad
/-- target = e -/
theorem s_asg {tg : Expr} {fa : Sl → Hc → Res D} (he : PE X e (tI g W fa)) (hg : PG X tg (gI g vs f)) (hs : swapsWithSole [tg] e pos.line X.env = pure false := by rfl) (hw : swappedStores [tg] e X.env = pure none := by rfl) (ht : (assignEach [tg] X.env).map (·.2) = [assign tg X.env] := by rfl) : PS X (.Assign [tg] e pos) (sI g W (asG f fa)) := by
  refine ps_imp (ps_asg he hg hs hw ht) fun E σ H ⟨z, sl, hc, hs, s, h⟩ => ?_
  refine tI.mono (OutS.thenE (f := fa) hs s h) fun v H1 ⟨z1, d1, hc1, x1, hs1, st1, r1, o1⟩ => ?_
  cases e : f d1 sl with
  | none => rw [e] at o1; exact o1.elim
  | some sl' =>
    rw [e] at o1
    exact ⟨z1, sl, hc1, d1, sl', hs1, st1, r1, e, fun σ' s' _ => o1 z1 H1 σ' (.refl z1 H1) s' st1⟩
end

/-! ### what is walked -/
/-- the items, behind the making of the iterator: any walk that gives them, one after another -/
def OutI (g : Gx) (z : Fz) (H : Hp) (ds : List D) (R : It → Hp → Prop) : Prop := ∀ (J : It) (G : Hp → Prop) (Y : Nat → Hp → V → Hp → Prop), Walk J ds.length G Y → (∀ z' H' hc, Ext z H z' H' → StR g z' H' hc → G H') →
  (∀ (i : Nat) (H1 : Hp) (x : V) (H2 : Hp) (z1 : Fz) (hc : Hc), i < ds.length → Ext z H z1 H1 → StR g z1 H1 hc → Y i H1 x H2 → ∃ z2 d, Ext z1 H1 z2 H2 ∧ StR g z2 H2 hc ∧ ds[i]? = some d ∧ RelD g z2 d x) → R J H
/-- what an iterable's reading asks: its items -/
def iI (g : Gx) (W : WX) (f : Sl → Hc → Res (List D)) : TI := fun σ H R => ∃ z sl hc, Sv g z sl σ ∧ StR g z H hc ∧ match f sl hc with
  | .ok ds hc1 => ∀ z1 H1, Ext z H z1 H1 → Sv g z1 sl σ → StR g z1 H1 hc1 → OutI g z1 H1 ds R
  | .exc c hc1 => ∀ z' H', Ext z H z' H' → StR g z' H' hc1 → W (.ref (g.fa c)) none σ H'
  | .bad => False
theorem pi_imp {X : Cx} {tg e : Expr} {t u : TI} (h : PI X tg e t) (k : ∀ σ H Q, u σ H Q → t σ H Q) : PI X tg e u := ⟨fun pins s σ H R I hu => h.run pins s σ H R I (k σ H R hu)⟩
/-- the items of a value -/
def itE (k : Hc → D → Option (List D)) (f : Sl → Hc → Res D) : Sl → Hc → Res (List D) := fun sl hc => (f sl hc).bind fun d hc1 => match k hc1 d with
  | some ds => .ok ds hc1
  | none => .bad
def itL (_ : Hc) : D → Option (List D)
  | .lst ds => some ds
  | _ => none
def itT (_ : Hc) : D → Option (List D)
  | .tup ds => some ds
  | _ => none
def signs (x : Str) : List D := x.cps.toList.map fun c => .str ⟨#[c]⟩
def itS (_ : Hc) : D → Option (List D)
  | .str x => some (signs x)
  | _ => none
def upTo (lo : Int) (n : Nat) : List D := (List.range n).map fun i => .int (lo + (i : Nat))
def itR (_ : Hc) : D → Option (List D)
  | .int j => if decide (-(2 ^ 62) ≤ j) && decide (j < 2 ^ 62) then some (upTo 0 j.toNat) else none
  | _ => none
section
variable {X : Cx} {g : Gx} {W : WX} {kk : Nat} {tg e : Expr} {fa : Sl → Hc → Res D} {k : Hc → D → Option (List D)} {pos p : Pos}
/-- one expression makes it -/
theorem iI.of {σ : St} {H : Hp} {R : It → Hp → Prop} (h : iI g W (itE k fa) σ H R) : tI g W fa σ H fun v H1 => ∃ z1 d hc1, StR g z1 H1 hc1 ∧ RelD g z1 d v ∧ ∃ ds, k hc1 d = some ds ∧ OutI g z1 H1 ds R := by
  obtain ⟨z, sl, hc, hs, st, h⟩ := h
  refine ⟨z, sl, hc, hs, st, ?_⟩
  unfold itE at h
  revert h
  cases fa sl hc with
  | ok d hc1 =>
    intro h z' H' v x s r
    refine ⟨z', d, hc1, s, r, ?_⟩
    simp only [Res.bind] at h
    cases e : k hc1 d with
    | some ds =>
      simp only [e] at h
      exact ⟨ds, rfl, h z' H' x (hs.ext x) s⟩
    | none => simp only [e] at h
  | exc c hc1 => exact fun h => h
  | bad => exact fun h => h
theorem i_lst (ha : PE X e (tI g W fa)) : PI X tg e (iI g W (itE itL fa)) := by
  refine pi_imp (pi_list ha) fun σ H R h => tI.mono (iI.of h) fun v H1 ⟨z1, d, hc1, st, r, ds, e, o⟩ => ?_
  cases r with
  | lst h1 q1 =>
    cases e
    refine ⟨_, rfl, ⟨_, .inl (Rd.mono st.sub h1)⟩, o _ (fun H => SqL X.K H _ _) _ (by rw [q1.length]; exact walk_list) (fun z' H' hc x s => .inl (Rd.mono s.sub (Rd.mono x.le.1 h1))) ?_⟩
    rintro i H2 x H3 z2 hc hi xx ss ⟨rfl, hx⟩
    obtain ⟨d, h2, h3⟩ := q1.getV hx
    exact ⟨z2, d, .refl _ _, ss, h2, h3.mono xx.le⟩
  | _ => cases e
theorem i_tup (c : Ct X g W kk) (ha : PE X e (tI g W fa)) : PI X tg e (iI g W (itE itT fa)) := by
  refine pi_imp (pi_tup ha) fun σ H R h => tI.mono (iI.of h) fun v H1 ⟨z1, d, hc1, st, r, ds, e, o⟩ => ?_
  have hK := c.hK
  cases r with
  | tup h1 q1 =>
    cases e
    refine ⟨_, rfl, ⟨_, by rw [hK]; exact SqT.mono st.sub h1⟩, o _ (fun H => SqT X.K H _ _) _ (by rw [q1.length]; exact walk_tup) (fun z' H' hc x s => by rw [hK]; exact SqT.mono s.sub (SqT.mono x.le.1 h1)) ?_⟩
    rintro i H2 x H3 z2 hc hi xx ss ⟨rfl, hx⟩
    obtain ⟨d, h2, h3⟩ := q1.getV hx
    exact ⟨z2, d, .refl _ _, ss, h2, h3.mono xx.le⟩
  | _ => cases e
theorem i_str (ha : PE X e (tI g W fa)) : PI X tg e (iI g W (itE itS fa)) := by
  refine pi_imp (pi_str ha) fun σ H R h => tI.mono (iI.of h) fun v H1 ⟨z1, d, hc1, st, r, ds, e, o⟩ => ?_
  cases r with
  | str x =>
    cases e
    refine ⟨x, rfl, o _ (fun _ => True) _ (by rw [signs, List.length_map, Array.length_toList]; exact walk_str) (fun _ _ _ _ _ => trivial) ?_⟩
    rintro i H2 v H3 z2 hc hi xx ss ⟨rfl, cc, hx, rfl⟩
    refine ⟨z2, .str ⟨#[cc]⟩, .refl _ _, ss, ?_, .str _⟩
    rw [signs, List.getElem?_map, Array.getElem?_toList, hx]
    rfl
  | _ => cases e
theorem i_range (ha : PE X e (tI g W fa)) (hm : X.mg "range" = none) (hg : Gl X "range" := by rfl) (hs : starEach [e] X.env = [(false, eval e X.env)] := by rfl) : PI X tg (.Call (.Name "range" p) [e] [] pos) (iI g W (itE itR fa)) := by
  refine pi_imp (pi_range1 hg hm (pa_cons ha pa_nil hs) hs) fun σ H R h => tI.mono (iI.of h) fun v H1 ⟨z1, d, hc1, st, r, ds, e, o⟩ => ?_
  cases r with
  | int j =>
    simp only [itR] at e
    split at e
    · rename_i hb
      cases e
      simp only [Bool.and_eq_true, decide_eq_true_eq] at hb
      refine ⟨j, rfl, hb.1, hb.2, o _ (fun _ => True) _ (by rw [upTo, List.length_map, List.length_range]; exact walk_range) (fun _ _ _ _ _ => trivial) ?_⟩
      rintro i H2 v H3 z2 hc hi xx ss ⟨rfl, rfl⟩
      refine ⟨z2, .int (0 + (i : Nat)), .refl _ _, ss, ?_, .int _⟩
      rw [upTo, List.length_map, List.length_range] at hi
      rw [upTo, List.getElem?_map, List.getElem?_range hi]
      rfl
    · cases e
  | _ => cases e
end
/-! ### for -/
def loopS (ft : D → Sl → Option Sl) (fb : Sl → Hc → RS) : List D → Sl → Hc → RS
  | [], sl, hc => .nx sl hc
  | d :: ds, sl, hc => match ft d sl with
    | none => .bad
    | some sl1 => match fb sl1 hc with
      | .nx sl2 hc2 => loopS ft fb ds sl2 hc2
      | .ct sl2 hc2 => loopS ft fb ds sl2 hc2
      | .bk sl2 hc2 => .nx sl2 hc2
      | r => r
def forS (ft : D → Sl → Option Sl) (fi : Sl → Hc → Res (List D)) (fb : Sl → Hc → RS) : Sl → Hc → RS := fun sl hc => (fi sl hc).toS sl fun ds hc1 => loopS ft fb ds sl hc1
section
variable {X : Cx} {g : Gx} {W : WX} {kk : Nat} {tg e : Expr} {ft : D → Sl → Option Sl} {fi : Sl → Hc → Res (List D)} {fb : Sl → Hc → RS} {body : List Stmt} {pos : Pos} {vs : List Nat}
theorem s_for (c : Ct X g W kk) (hp : PassesOwn (model X.prog X.w) X.A X.env X.xe) (hi : PI X tg e (iI g W fi)) (hg : PG X tg (gI g vs ft)) (hb : PSs X body (sI g W fb)) (hs : ∀ x, foldedSetIterable e X.env x = pure x := by intro _; rfl) :
    PS X (.For tg e body [] pos) (sI g W (forS ft fi fb)) := by
  refine ps_imp (ps_for hp c.calm hi hg hb hs) fun E σ H ⟨z, sl, hc, hs, s, h⟩ => ⟨z, sl, hc, hs, s, ?_⟩
  unfold forS at h
  revert h
  cases fi sl hc with
  | bad => exact fun h => h
  | exc c hc1 => exact fun h z' H' x st => h z' H' σ x (hs.ext x) st
  | ok ds hc1 =>
    intro h z1 H1 x1 hs1 st1 J G Y w hG hY
    have h : OutS g W z H (loopS ft fb ds sl hc1) E := h
    refine for_it w (fun i σ' H' => ∃ z' sl' hc', Ext z1 H1 z' H' ∧ Sv g z' sl' σ' ∧ StR g z' H' hc' ∧ OutS g W z' H' (loopS ft fb (ds.drop i) sl' hc') E) ⟨z1, sl, hc1, .refl _ _, hs1, st1, OutS.ext h x1⟩ ?_ ?_ ?_
    · rintro i σ' H' hi ⟨z', sl', hc', x', _, s', _⟩
      exact hG z' H' hc' x' s'
    · rintro i x σ' H' H2 hi ⟨z', sl', hc', x', sv', s', o'⟩ y
      obtain ⟨z2, d, x2, s2, hd, rd⟩ := hY i H' x H2 z' hc' hi x' s' y
      have ed : ds.drop i = d :: ds.drop (i + 1) := by
        rw [List.drop_eq_getElem_cons hi]
        rw [List.getElem?_eq_getElem hi] at hd
        cases hd
        rfl
      rw [ed] at o'
      unfold loopS at o'
      cases e1 : ft d sl' with
      | none => rw [e1] at o'; exact o'.elim
      | some sl1 =>
        rw [e1] at o'
        refine ⟨z2, sl', hc', d, sl1, sv'.ext x2, s2, rd, e1, fun σ2 sv2 _ => ⟨z2, sl1, hc', sv2, s2, ?_⟩⟩
        have o2 := OutS.ext o' x2
        simp only at o2
        revert o2
        cases fb sl1 hc' with
        | nx sl2 hc2 => exact fun o z3 H3 σ3 x3 sv3 s3 => ⟨z3, sl2, hc2, (x'.trans x2).trans x3, sv3, s3, OutS.ext o x3⟩
        | ct sl2 hc2 => exact fun o z3 H3 σ3 x3 sv3 s3 => ⟨z3, sl2, hc2, (x'.trans x2).trans x3, sv3, s3, OutS.ext o x3⟩
        | bk sl2 hc2 => exact fun o => o
        | rt d hc2 => exact fun o => o
        | exc c sl2 hc2 => exact fun o => o
        | bad => exact fun o => o
    · rintro σ' H' ⟨z', sl', hc', x', sv', s', o'⟩
      rw [List.drop_length] at o'
      exact o' z' H' σ' (.refl _ _) sv' s'
end
/-! ### while -/
def whileS (t : Sl → Hc → Res Bool) (fb : Sl → Hc → RS) : Nat → Sl → Hc → RS
  | 0, _, _ => .bad
  | n + 1, sl, hc => (t sl hc).toS sl fun b hc1 => if b then (match fb sl hc1 with
      | .nx sl2 hc2 => whileS t fb n sl2 hc2
      | .ct sl2 hc2 => whileS t fb n sl2 hc2
      | .bk sl2 hc2 => .nx sl2 hc2
      | r => r) else .nx sl hc1
section
variable {X : Cx} {g : Gx} {W : WX} {kk n : Nat} {e : Expr} {ft : Sl → Hc → Res Bool} {fb : Sl → Hc → RS} {body : List Stmt} {pos : Pos}
theorem s_while (hp : PassesOwn (model X.prog X.w) X.A X.env X.xe) (hc : PT X e (bI g W ft)) (hb : PSs X body (sI g W fb)) : PS X (.While e body [] pos) (sI g W (whileS ft fb n)) := by
  refine ps_imp (ps_while hp hc hb) fun E σ H ⟨z, sl, hc, hs, s, h⟩ => ?_
  refine ⟨fun m σ' H' => ∃ z' sl' hc', Sv g z' sl' σ' ∧ StR g z' H' hc' ∧ OutS g W z' H' (whileS ft fb m sl' hc') E, ⟨n, z, sl, hc, hs, s, h⟩, ?_⟩
  rintro m σ' H' ⟨z', sl', hc', sv', s', o'⟩
  cases m with
  | zero => exact o'.elim
  | succ m =>
    unfold whileS at o'
    refine bI.mono (OutS.thenT (f := ft) sv' s' o') fun b H1 ⟨z1, hc1, x1, hs1, st1, o1⟩ => ?_
    cases b with
    | false => simp only [Bool.false_eq_true, if_false] at o1 ⊢; exact o1 z1 H1 σ' (.refl _ _) hs1 st1
    | true =>
      simp only [if_true] at o1 ⊢
      refine ⟨fun σ3 H3 => ∃ z' sl' hc', Sv g z' sl' σ3 ∧ StR g z' H3 hc' ∧ OutS g W z' H3 (whileS ft fb m sl' hc') E, fun σ3 H3 h3 => ⟨m, Nat.lt_succ_self m, h3⟩, z1, sl', hc1, hs1, st1, ?_⟩
      revert o1
      cases fb sl' hc1 with
      | nx sl2 hc2 => exact fun o z3 H3 σ3 x3 sv3 s3 => ⟨z3, sl2, hc2, sv3, s3, OutS.ext o x3⟩
      | ct sl2 hc2 => exact fun o z3 H3 σ3 x3 sv3 s3 => ⟨z3, sl2, hc2, sv3, s3, OutS.ext o x3⟩
      | bk sl2 hc2 => exact fun o => o
      | rt d hc2 => exact fun o => o
      | exc c sl2 hc2 => exact fun o => o
      | bad => exact fun o => o
end
end Bo

set_option Elab.async false
set_option linter.all false
set_option maxRecDepth 100000
set_option maxHeartbeats 2000000
set_option autoImplicit false
/-! Bo7: comprehensions. -/
namespace Bo
open PySem PySem.Spec L2

/-! ### a place that is left out -/
def del (H : Hp) (p : Addr) : Hp := fun a => if a = p then none else H a
theorem del_same {H : Hp} {p : Addr} : del H p p = none := if_pos rfl
theorem del_ne {H : Hp} {p a : Addr} (h : a ≠ p) : del H p a = H a := if_neg h
theorem of_del {H : Hp} {p a : Addr} {o : HO} (h : del H p a = some o) : H a = some o ∧ a ≠ p := by
  by_cases e : a = p
  · subst e; rw [del_same] at h; cases h
  · rw [del_ne e] at h; exact ⟨h, e⟩
theorem del_upd {H : Hp} {p : Addr} {o : HO} : upd (del H p) p o = upd H p o := by
  funext a
  by_cases e : a = p
  · subst e; rw [upd_same, upd_same]
  · rw [upd_ne e, upd_ne e, del_ne e]
theorem del_of_upd {H : Hp} {p : Addr} {o : HO} : del (upd H p o) p = del H p := by
  funext a
  by_cases e : a = p
  · subst e; rw [del_same, del_same]
  · rw [del_ne e, del_ne e, upd_ne e]
theorem del_none {H : Hp} {p : Addr} (h : H p = none) : del H p = H := by
  funext a
  by_cases e : a = p
  · subst e; rw [del_same, h]
  · rw [del_ne e]
/-- what is at p is nobody's -/
structure Apart (z : Fz) (p : Addr) : Prop where
  nf : z.F p = none
  nr : ∀ n, z.ρ n ≠ some p
theorem ObR.fill {g : Gx} {z : Fz} {H H' : Hp} {a : Addr} {o : Ob} (k : H a = H' a) (h : ObR g z H a o) : ObR g z H' a o := by
  cases o with
  | lst ds => obtain ⟨xs, e1, e2⟩ := h; exact ⟨xs, by rw [← k]; exact e1, e2⟩
  | ins c fs => obtain ⟨dx, vs, e1, e2⟩ := h; exact ⟨dx, vs, by rw [← k]; exact e1, e2⟩
  | dct ks es => obtain ⟨vs, e1, el, e2⟩ := h; exact ⟨vs, by rw [← k]; exact e1, el, e2⟩
theorem StR.fill {g : Gx} {z : Fz} {H : Hp} {p : Addr} {hc : Hc} (st : StR g z (del H p) hc) : StR g z H hc where
  sub := fun a o h => (of_del (st.sub a o h)).1
  inj := st.inj
  live := fun n a h => let ⟨o, e⟩ := st.live n a h; ⟨o, (of_del e).1⟩
  fresh := st.fresh
  obj := fun n o h => by
    obtain ⟨a, e1, e2, e3⟩ := st.obj n o h
    obtain ⟨u, e4⟩ := st.live n a e1
    exact ⟨a, e1, e2, e3.fill (del_ne (of_del e4).2)⟩
theorem StR.apart {g : Gx} {z : Fz} {H : Hp} {p : Addr} {hc : Hc} (st : StR g z (del H p) hc) : Apart z p where
  nf := by
    cases e : z.F p with
    | none => rfl
    | some o => have := st.sub p o e; rw [del_same] at this; cases this
  nr := fun n e => by
    obtain ⟨o, q⟩ := st.live n p e
    rw [del_same] at q; cases q
theorem StR.hole {g : Gx} {z : Fz} {H : Hp} {p : Addr} {hc : Hc} (st : StR g z H hc) (ap : Apart z p) : StR g z (del H p) hc where
  sub := fun a o h => by
    have ne : a ≠ p := fun e => by subst e; rw [ap.nf] at h; cases h
    rw [del_ne ne]; exact st.sub a o h
  inj := st.inj
  live := fun n a h => by
    have ne : a ≠ p := fun e => by subst e; exact ap.nr n h
    obtain ⟨o, q⟩ := st.live n a h
    exact ⟨o, by rw [del_ne ne]; exact q⟩
  fresh := st.fresh
  obj := fun n o h => by
    obtain ⟨a, e1, e2, e3⟩ := st.obj n o h
    have ne : a ≠ p := fun e => by subst e; exact ap.nr n e1
    exact ⟨a, e1, e2, e3.fill (del_ne ne).symm⟩
theorem Ext.hole {z z' : Fz} {H H' : Hp} {p : Addr} {o : HO} (x : Ext z H z' H') (hp : H p = some o) (ap : Apart z p) : Ext z (del H p) z' (del H' p) ∧ Apart z' p ∧ H' p = some o := by
  have ap' : Apart z' p := ⟨by
    cases e : z'.F p with
    | none => rfl
    | some u =>
      rcases x.fNew p u e ap.nf with q | ⟨n, q⟩
      · rw [hp] at q; cases q
      · exact absurd q (ap.nr n), fun n e => by
    cases q : z.ρ n with
    | none => have := x.rNew n p e q; rw [hp] at this; cases this
    | some b => have := x.le.2 n b q; rw [e] at this; cases this; exact ap.nr n q⟩
  refine ⟨⟨x.le, fun a u h k => ?_, fun a u h => ?_, fun a u h k => ?_, fun n a h k => ?_⟩, ap', x.keep p o hp ap.nr⟩
  · obtain ⟨h1, h2⟩ := of_del h
    rw [del_ne h2]; exact x.keep a u h1 k
  · obtain ⟨h1, h2⟩ := of_del h
    obtain ⟨u', q⟩ := x.alive a u h1
    exact ⟨u', by rw [del_ne h2]; exact q⟩
  · have ne : a ≠ p := fun e => by subst e; rw [ap'.nf] at h; cases h
    rw [del_ne ne]; exact x.fNew a u h k
  · have ne : a ≠ p := fun e => by subst e; exact ap'.nr n h
    rw [del_ne ne]; exact x.rNew n a h k
theorem Ext.fill {z z' : Fz} {H H' : Hp} {p : Addr} (x : Ext z H z' (del H' p)) : Ext z H z' H' :=
  ⟨x.le, fun a u h k => (of_del (x.keep a u h k)).1, fun a u h => let ⟨o, q⟩ := x.alive a u h; ⟨o, (of_del q).1⟩, x.fNew, x.rNew⟩
theorem wipe_wipe {σ : St} {vs : List Nat} : wipe (wipe σ vs) vs = wipe σ vs := by
  refine List.ext_getElem? fun j => ?_
  by_cases hj : j ∈ vs
  · by_cases hl : j < σ.length
    · rw [wipe_at hj hl, wipe_at hj (by rw [wipe_length]; exact hl)]
    · rw [List.getElem?_eq_none (by rw [wipe_length, wipe_length]; omega), List.getElem?_eq_none (by rw [wipe_length]; omega)]
  · rw [wipe_out hj]
/-! ### the slots within a block -/
def wipeS (sl : Sl) : List Nat → Sl
  | [] => sl
  | v :: vs => (wipeS sl vs).set v none
theorem Sv.none {g : Gx} {z : Fz} {sl : Sl} {σ : St} (h : Sv g z sl σ) (i : Nat) (o : Option V) : Sv g z (sl.set i none) (σ.set i o) where
  val := fun j e q => by
    by_cases hj : i = j
    · subst hj
      by_cases hl : i < sl.length
      · rw [List.getElem?_set_self hl] at q; cases q
      · rw [List.getElem?_eq_none (by simpa using hl)] at q; cases q
    · rw [List.getElem?_set_ne hj] at q
      rw [List.getElem?_set_ne hj]
      exact h.val j e q
  len := by simp [h.len]
theorem Sv.wipe {g : Gx} {z : Fz} {sl : Sl} {σ : St} (h : Sv g z sl σ) : ∀ vs : List Nat, Sv g z (wipeS sl vs) (L2.wipe σ vs)
  | [] => h
  | v :: vs => (Sv.wipe h vs).none v .none
/-! ### list comprehensions -/
def mapC (ft : D → Sl → Option Sl) (tt : Sl → Hc → Res Bool) (fe : Sl → Hc → Res D) (sl : Sl) : List D → Hc → Res (List D)
  | [], hc => .ok [] hc
  | d :: ds, hc => match ft d sl with
    | none => .bad
    | some sl1 => (tt sl1 hc).bind fun b hc1 => if b then (fe sl1 hc1).bind fun y hc2 => (mapC ft tt fe sl ds hc2).bind fun ys hc3 => .ok (y :: ys) hc3 else mapC ft tt fe sl ds hc1
def lcE (vs : List Nat) (ft : D → Sl → Option Sl) (fi : Sl → Hc → Res (List D)) (tt : Sl → Hc → Res Bool) (fe : Sl → Hc → Res D) : Sl → Hc → Res D := fun sl hc => (fi sl hc).bind fun ds hc1 => match mapC ft tt fe (wipeS sl vs) ds hc1 with
  | .ok ys hc2 => if ys.length ≤ sizeLine then .ok (.lst ys) hc2 else .bad
  | _ => .bad
def yT : Sl → Hc → Res Bool := fun _ hc => .ok true hc
abbrev W0 : WX := fun _ _ _ _ => False
theorem pts_imp {X : Cx} {e : List Expr} {t u : TT} (h : PTs X e t) (k : ∀ σ H Q, u σ H Q → t σ H Q) : PTs X e u := ⟨fun pins s σ H Q I hu => h.run pins s σ H Q I (k σ H Q hu)⟩
section
variable {X : Cx} {g : Gx} {W : WX} {kk : Nat}
theorem ts_nil : PTs X [] (bI g W yT) := pts_imp pts_nil fun σ H Q ⟨z, sl, hc, hs, st, h⟩ => h z H (.refl z H) st
theorem ts_one {c : Expr} {f : Sl → Hc → Res Bool} (h : PT X c (bI g W f)) : PTs X [c] (bI g W f) := pts_one h
/-- a block's context -/
theorem Ct.blk (c : Ct X g W kk) (s : Shared) (H : Hp) (scope : Scope) (env : Env) (fp : List Addr) : Ct (X.blk s H scope env fp) g W0 kk := ⟨c.hK, takes0, c.calm, c.room, c.guards⟩
theorem read_lc {vs : List Nat} {ft : D → Sl → Option Sl} {fi : Sl → Hc → Res (List D)} {tt : Sl → Hc → Res Bool} {fe : Sl → Hc → Res D} {σ : St} {H : Hp} {Q : VK} (h : tI g W (lcE vs ft fi tt fe) σ H Q) :
    tLc (iI g W fi) (gI g vs ft) (bI g W0 tt) (tI g W0 fe) vs σ H Q := by
  obtain ⟨z, sl, hc, hs, s, h⟩ := h
  refine ⟨z, sl, hc, hs, s, ?_⟩
  unfold lcE at h
  revert h
  cases fi sl hc with
  | bad => exact fun h => h
  | exc c hc1 => exact fun h => h
  | ok ds hc1 =>
    intro h z1 H1 x1 hs1 st1 J G Y w hG hY D hD
    simp only [Res.bind] at h
    cases e : mapC ft tt fe (wipeS sl vs) ds hc1 with
    | bad => rw [e] at h; exact h.elim
    | exc c hc2 => rw [e] at h; exact h.elim
    | ok ys hcE =>
      rw [e] at h
      simp only at h
      split at h
      · rename_i hlen
        have apD : Apart z1 D := StR.apart (H := H1) (by rw [del_none hD]; exact st1)
        refine lc_it w (fun i H' => ∃ z' hc' acc ws, H' D = some (.lst ws) ∧ RelDs g z' acc ws ∧ Ext z1 H1 z' (del H' D) ∧ StR g z' (del H' D) hc' ∧ Apart z' D ∧ ∃ ys', mapC ft tt fe (wipeS sl vs) (ds.drop i) hc' = .ok ys' hcE ∧ acc ++ ys' = ys) ?_ ?_ ?_ ?_
        · refine ⟨z1, hc1, [], [], upd_same, .nil, ?_, ?_, apD, ys, e, rfl⟩
          · rw [del_of_upd, del_none hD]; exact .refl _ _
          · rw [del_of_upd, del_none hD]; exact st1
        · rintro i H' hi ⟨z', hc', acc, ws, h1, h2, h3, h4, h5, ys', h6, h7⟩
          exact hG z' H' hc' h3.fill h4.fill
        · rintro i x H' H2 hi ⟨z', hc', acc, ws, h1, h2, h3, h4, h5, ys', h6, h7⟩ y
          obtain ⟨z2, d, x2, s2, hd, rd⟩ := hY i H' x H2 z' hc' hi h3.fill h4.fill y
          obtain ⟨k2, a2, D2⟩ := x2.hole h1 h5
          have ed : ds.drop i = d :: ds.drop (i + 1) := by
            rw [List.drop_eq_getElem_cons hi]
            rw [List.getElem?_eq_getElem hi] at hd
            cases hd
            rfl
          rw [ed] at h6
          unfold mapC at h6
          cases e1 : ft d (wipeS sl vs) with
          | none => rw [e1] at h6; cases h6
          | some sl1 =>
            rw [e1] at h6
            have svw := ((hs1.ext (h3.fill)).ext x2).wipe vs
            refine ⟨z2, wipeS sl vs, hc', d, sl1, svw, s2, rd, e1, fun σ2 sv2 w2 => ⟨w2.trans wipe_wipe, z2, sl1, hc', sv2, s2, ?_⟩⟩
            simp only at h6
            revert h6
            cases tt sl1 hc' with
            | bad => exact fun h => nomatch h
            | exc c hcb => exact fun h => nomatch h
            | ok b hcb =>
              intro h6 z3 H3 x3 s3
              obtain ⟨k3, a3, D3⟩ := x3.hole D2 a2
              cases b with
              | false =>
                simp only [Bool.false_eq_true, if_false]
                simp only [Res.bind, Bool.false_eq_true, if_false] at h6
                exact ⟨z3, hcb, acc, ws, D3, (h2.mono x2.le).mono x3.le, h3.trans (k2.trans k3), s3.hole a3, a3, ys', h6, h7⟩
              | true =>
                simp only [if_true]
                simp only [Res.bind, if_true] at h6
                refine ⟨z3, sl1, hcb, sv2.ext x3, s3, ?_⟩
                revert h6
                cases fe sl1 hcb with
                | bad => exact fun h => nomatch h
                | exc c hcb => exact fun h => nomatch h
                | ok yd hcy =>
                  intro h6 z4 H4 v x4 s4 r4
                  obtain ⟨k4, a4, D4⟩ := x4.hole D3 a3
                  simp only at h6
                  revert h6
                  cases e2 : mapC ft tt fe (wipeS sl vs) (ds.drop (i + 1)) hcy with
                  | bad => exact fun h => nomatch h
                  | exc c hcb => exact fun h => nomatch h
                  | ok ys2 hc2 =>
                    intro h6
                    cases h6
                    have l1 := h2.length
                    have l2 : acc.length + (ys2.length + 1) = ys.length := by
                      rw [← h7]; simp
                    refine ⟨ws, D4, by omega, z4, hcy, acc ++ [yd], ws ++ [v], upd_same, (((h2.mono x2.le).mono x3.le).mono x4.le).append (.cons r4 .nil), ?_, ?_, a4, ys2, e2, by rw [← h7]; simp⟩
                    · rw [del_of_upd]; exact h3.trans (k2.trans (k3.trans k4))
                    · rw [del_of_upd]; exact s4.hole a4
        · rintro H' ⟨z', hc', acc, ws, h1, h2, h3, h4, h5, ys', h6, h7⟩
          rw [List.drop_length] at h6
          cases h6
          rw [List.append_nil] at h7
          subst h7
          obtain ⟨x2, s2⟩ := h4.alloc (o := .lst ws) (p := D) del_same
          have eH : upd (del H' D) D (.lst ws) = H' := by
            rw [del_upd]
            funext a
            by_cases ea : a = D
            · subst ea; rw [upd_same, h1]
            · rw [upd_ne ea]
          rw [eH] at x2 s2
          exact h _ _ _ (x1.trans (h3.trans x2)) s2 (.lst (Rd.of (show upd z'.F D _ D = _ from upd_same)) (h2.mono x2.le))
      · exact h.elim
/-- [elt for target in iter if ..] -/
theorem e_lc {elt tg iter : Expr} {ifs : List Expr} {scope : Scope} {pos : Pos} {ft : D → Sl → Option Sl} {fi : Sl → Hc → Res (List D)} {tt : Sl → Hc → Res Bool} {fe : Sl → Hc → Res D} (own : List (Str × Nat)) (c : Ct X g W kk) (hN : X.N.Nodup) (hi : PI X tg iter (iI g W fi))
    (ok : blkC X.N X.env.scope scope own = true)
    (hg : ∀ (s : Shared) (H : Hp) (C : Addr) (cl : List (Str × Addr)) (fp : List Addr), PG (X.blk s H scope (compEnvC scope cl C X.env) fp) tg (gI g (own.map (·.2)) ft))
    (ht : ∀ (s : Shared) (H : Hp) (C : Addr) (cl : List (Str × Addr)) (fp : List Addr), PTs (X.blk s H scope (compEnvC scope cl C X.env) fp) ifs (bI g W0 tt))
    (he : ∀ (s : Shared) (H : Hp) (C : Addr) (cl : List (Str × Addr)) (fp : List Addr), PE (X.blk s H scope (compEnvC scope cl C X.env) fp) elt (tI g W0 fe)) (hs : ∀ x, foldedSetIterable iter X.env x = pure x := by intro _; rfl) :
    PE X (.ListComp elt [⟨tg, iter, ifs, 0⟩] scope pos) (tI g W (lcE (own.map (·.2)) ft fi tt fe)) :=
  pe_imp (pe_lc (own := own) c.calm hN hi (blkOk_by ok) hg ht he hs) fun _ _ _ => read_lc
/-- name = [elt for ..] on one line -/
theorem s_setLc {y : Str} {py spos : Pos} {elt tg iter : Expr} {ifs : List Expr} {scope : Scope} {pos : Pos} {ft : D → Sl → Option Sl} {fi : Sl → Hc → Res (List D)} {tt : Sl → Hc → Res Bool} {fe : Sl → Hc → Res D} (i : Nat) (own : List (Str × Nat)) (c : Ct X g W kk) (hN : X.N.Nodup)
    (hsw : swapsWith (.ListComp elt [⟨tg, iter, ifs, 0⟩] scope pos) (some (.Name y py)) spos.line X.env = pure true) (hi : PI X tg iter (iI g W fi))
    (ok : blkC X.N X.env.scope scope own = true)
    (hg : ∀ (s : Shared) (H : Hp) (C : Addr) (cl : List (Str × Addr)) (fp : List Addr), PG (X.blk s H scope (compEnvC scope cl C X.env) fp) tg (gI g (own.map (·.2)) ft))
    (ht : ∀ (s : Shared) (H : Hp) (C : Addr) (cl : List (Str × Addr)) (fp : List Addr), PTs (X.blk s H scope (compEnvC scope cl C X.env) fp) ifs (bI g W0 tt))
    (he : ∀ (s : Shared) (H : Hp) (C : Addr) (cl : List (Str × Addr)) (fp : List Addr), PE (X.blk s H scope (compEnvC scope cl C X.env) fp) elt (tI g W0 fe)) (hy : X.N[i]? = some y := by rfl) (hyl : X.env.scope.names.lookup y = some .local := by rfl) (hs : ∀ x, foldedSetIterable iter X.env x = pure x := by intro _; rfl) :
    PS X (.Assign [.Name y py] (.ListComp elt [⟨tg, iter, ifs, 0⟩] scope pos) spos) (sI g W (asgS i (lcE (own.map (·.2)) ft fi tt fe))) := by
  refine ps_imp (ps_setLc (own := own) c.calm hN hy hyl hsw hi (blkOk_by ok) hg ht he hs) fun E σ H ⟨z, sl, hc, hs, s, h⟩ => ?_
  refine read_lc (tI.mono (OutS.thenE (f := lcE (own.map (·.2)) ft fi tt fe) hs s h) fun v H1 ⟨z1, d1, hc1, x1, hs1, st1, r1, o1⟩ => ?_)
  exact o1 z1 H1 _ (.refl z1 H1) (hs1.set r1 i) st1
end
end Bo

set_option Elab.async false
set_option linter.all false
set_option maxRecDepth 100000
set_option maxHeartbeats 2000000
set_option autoImplicit false
/-! Bo8: defs, calls, new numbered lists. -/
namespace Bo
open PySem PySem.Spec L2

def OutC (g : Gx) (z : Fz) (H : Hp) (r : Res D) (Q : VK) (E : XK) : Prop := match r with
  | .ok d hc => ∀ z' H' v, Ext z H z' H' → StR g z' H' hc → RelD g z' d v → Q v H'
  | .exc c hc => ∀ z' H', Ext z H z' H' → StR g z' H' hc → E (.ref (g.fa c)) none H'
  | .bad => False
/-- a def does what cl says, called with room for k -/
structure FnI (P : Program) (w : World) (K : PySem.W.Frag) (mg : Str → Option Value) (base : Heap) (g : Gx) (k : Nat) (f : Addr) (fd : FuncData) (ps : List Str) (cl : List D → Hc → Res D) : Prop where
  len : ∀ ds hc, cl ds hc = .bad ∨ ds.length = ps.length
  run : ∀ (A : Around) (outer : List Env) (s : Shared) (H : Hp) (args : Args) (us : List Value) (vs : List V) (z : Fz) (hc : Hc) (ds : List D) (Q : VK) (E : XK), Room k A → A.guards = some [] → Env0 P w K mg base A outer s H → BindsTo s fd args (ps.zip us) → Vals vs us →
    StR g z H hc → RelDs g z ds vs → OutC g z H (cl ds hc) Q E → codeAny (model P w) A (.call (.ref f) args) (CR (L2.CX P w) outer P w H s Q E) s
def startS (n : Nat) (ds : List D) : Sl := ds.map some ++ List.replicate (n - ds.length) none
def fnR (np n : Nat) (body : Sl → Hc → RS) : List D → Hc → Res D := fun ds hc => if ds.length = np then (match body (startS n ds) hc with
  | .rt d h => .ok d h
  | .nx _ h => .ok .non h
  | .exc c _ h => .exc c h
  | _ => .bad) else .bad
theorem Sv.start {g : Gx} {z : Fz} {ds : List D} {vs : List V} {N : List Str} (r : RelDs g z ds vs) (hl : vs.length ≤ N.length) : Sv g z (startS N.length ds) (start N vs) where
  val := fun i d e => by
    unfold startS at e
    unfold L2.start
    have hlen := r.length
    by_cases hi : i < ds.length
    · rw [List.getElem?_append_left (by simpa using hi), List.getElem?_map] at e
      rw [List.getElem?_append_left (by rw [List.length_map]; omega), List.getElem?_map]
      cases q : ds[i]? with
      | none => rw [q] at e; cases e
      | some d' =>
        rw [q] at e
        cases e
        obtain ⟨v, h1, h2⟩ := r.get q
        exact ⟨v, by rw [h1]; rfl, h2⟩
    · rw [List.getElem?_append_right (by simpa using hi), List.getElem?_replicate] at e
      split at e <;> cases e
  len := by
    have hlen := r.length
    unfold startS L2.start
    simp only [List.length_append, List.length_map, List.length_replicate]
    omega
section
variable {P : Program} {w : World} {K : PySem.W.Frag} {mg : Str → Option Value} {base : Heap} {g : Gx} {k : Nat} {f : Addr} {fd : FuncData} {x qual : Str} {params : Arguments} {body : List Stmt} {scope : Scope} {dvs : List V} {kws : List (Str × V)} {N ps : List Str} {fb : Sl → Hc → RS}
/-- the context of a def's body -/
abbrev cxB (P : Program) (w : World) (K : PySem.W.Frag) (mg : Str → Option Value) (base : Heap) (N : List Str) (qual : Str) (scope : Scope) (f : Addr) (cdv : Value) (A : Around) (outer : List Env) (s : Shared) (H : Hp) (E : XK) : Cx :=
  cxOf (L2.CX P w) P w K mg base N qual scope f cdv A outer s H E
theorem fn_body (F : FunD K x qual params body scope dvs kws f fd) (S : FnScope N ps scope) (hgK : K = g.K)
    (hb : ∀ (cdv : Value) (A : Around) (outer : List Env) (s : Shared) (H : Hp) (E : XK), Ct (cxB P w K mg base N qual scope f cdv A outer s H E) g (fun cls d _ H => E cls d H) k → PassesOwn (model P w) (cxB P w K mg base N qual scope f cdv A outer s H E).A (cxB P w K mg base N qual scope f cdv A outer s H E).env (cxB P w K mg base N qual scope f cdv A outer s H E).xe →
      PSs (cxB P w K mg base N qual scope f cdv A outer s H E) body (sI g (fun cls d _ H => E cls d H) fb)) :
    FnI P w K mg base g (k + 1) f fd ps (fnR ps.length N.length fb) := by
  obtain ⟨oc, od, dV, kV, doc, pm, an, cdv, ct, osl, rfl, lk, hcd, _, _⟩ := F.ex
  refine ⟨fun ds hc => ?_, fun A outer s H args us vs z hc ds Q E hr hgd e0 hbd rv st rd o => ?_⟩
  · unfold fnR
    by_cases h : ds.length = ps.length
    · exact .inr h
    · exact .inl (if_neg h)
  by_cases hl : ds.length = ps.length
  · have o' : OutC g z H (match fb (startS N.length ds) hc with
      | .rt d h => .ok d h
      | .nx _ h => .ok .non h
      | .exc c _ h => .exc c h
      | _ => .bad) Q E := by
      unfold fnR at o
      rw [if_pos hl] at o
      exact o
    have hlv : vs.length = ps.length := by rw [← rd.length]; exact hl
    have hpl : ps.length ≤ N.length := by
      have q := congrArg List.length S.pre
      rw [List.length_take] at q
      omega
    have inK : K.In s.heap := e0.mod.kin.keeps fun b o e => (e0.bs b o e).1
    have noL : s.heap.NoLimit := e0.mod.nolimit.keeps fun b o e => (e0.bs b o e).1
    have kinds : ∀ y ∈ ps.zip us, scope.names.lookup y.1 = some .local ∨ (scope.names.lookup y.1 = some .cell ∧ ((cellsFrom (s.heap.objs.size + 1) scope.names []).lookup y.1).isSome = true) := by
      rintro ⟨n, v⟩ hy
      rcases S.par n (List.of_mem_zip hy).1 with q | q
      · exact .inl q
      · exact .inr ⟨q, PySem.W.cellsFrom_some _ _ _ (.inl q)⟩
    refine codeAny_call_function hr.depth (inK _ _ lk) rfl S.co S.gen rfl (PySem.W.codeRec_of inK hcd) (hbd _ _ _ _ ?_)
    refine wpAny_newFunctionEnv_cells S.kind kinds fun env he s1 xx => ?_
    subst he
    refine ⟨noL.keeps xx.toInCall.keep, codeAny_func ?_⟩
    have I : Inv (cxB P w K mg base N qual scope f cdv A outer s H E) [] (start N vs) H s1 := inv_start S hr.hd e0 hlv rv xx
    have C : Ct (cxB P w K mg base N qual scope f cdv A outer s H E) g (fun cls d _ H => E cls d H) k := ⟨hgK, takes_of rfl rfl rfl rfl, rfl, hr.deeper _, hgd⟩
    have body := hb cdv A outer s H E C (passes_of rfl)
    have rd0 : sI g (fun cls d _ H => E cls d H) fb { nx := fun _ H' => Q .non H', rt := Q } (start N vs) H := by
      refine ⟨z, startS N.length ds, hc, Sv.start rd (by omega), st, ?_⟩
      revert o'
      cases fb (startS N.length ds) hc with
      | rt d h => exact fun o => o
      | nx sl h => exact fun o z' H' σ' x' _ s' => o z' H' .non x' s' .non
      | exc c sl h => exact fun o z' H' σ' x' _ s' => o z' H' x' s'
      | bk sl h => exact fun o => o.elim
      | ct sl h => exact fun o => o.elim
      | bad => exact fun o => o
    refine wpAny_mono (body.run [] s1 (start N vs) H _ I rd0) (fun fl s' hs => ?_) fun e s' hs => hs
    cases fl with
    | ret u =>
      obtain ⟨v, σ', H', J, rv', q⟩ := hs
      exact ⟨v, H', J.os, J.bare, J.base, J.hok, rv', q⟩
    | next =>
      obtain ⟨σ', H', J, q⟩ := hs
      exact ⟨.non, H', J.os, J.bare, J.base, J.hok, rfl, q⟩
    | brk => obtain ⟨_, _, _, q⟩ := hs; exact q.elim
    | cont => obtain ⟨_, _, _, q⟩ := hs; exact q.elim
  · unfold fnR at o
    rw [if_neg hl] at o
    exact o.elim
end
/-! ### a call by name -/
def callE (cl : List D → Hc → Res D) (fs : Sl → Hc → Res (List D)) : Sl → Hc → Res D := fun sl hc => (fs sl hc).bind cl
section
variable {X : Cx} {g : Gx} {W : WX} {k : Nat} {f : Addr} {fd : FuncData} {ps : List Str} {cl : List D → Hc → Res D} {x : Str} {p pos : Pos} {a : Expr} {es : List Expr} {fs : Sl → Hc → Res (List D)}
theorem run_fnI {pins : List (Addr × Obj)} {σ : St} {H : Hp} {s : Shared} {Q : VK} {us : List Value} {vs : List V} {z : Fz} {hc : Hc} {ds : List D} (F : FnI X.prog X.w X.K X.mg X.base g k f fd ps cl) (c : Ct X g W k) (hb : Binds X.K fd ps []) (I : Inv X pins σ H s) (r : Vals vs us)
    (st : StR g z H hc) (rd : RelDs g z ds vs) (o : OutE g W z H σ (cl ds hc) Q) : wpAny (model X.prog X.w) X.A (call (.ref f) us) (EP X pins σ Q) X.xe s := by
  have o' : OutC g z H (cl ds hc) Q (WE W σ) := o
  have hl : us.length = ps.length := by
    rcases F.len ds hc with e | e
    · rw [e] at o'; exact o'.elim
    · rw [← r.length, ← rd.length]; exact e
  have bb := hb s us I.kIn (by rw [List.append_nil]; exact hl)
  rw [List.append_nil] at bb
  refine wpAny_call (codeAny_mono (F.run X.A X.stack s H ⟨us, []⟩ us vs z hc ds Q (WE W σ) c.room c.guards I.env0 bb r st rd o') fun r s' hq => ?_)
  cases r with
  | error e => exact passAt c.tk σ pins H s e s' I hq
  | ok fl =>
    cases fl with
    | ret u => exact I.after hq
    | next => exact False.elim hq
    | brk => exact False.elim hq
    | cont => exact False.elim hq
/-- what is known of a def that is called: its promise, how it binds, its name -/
structure FnT (P : Program) (w : World) (K : PySem.W.Frag) (mg : Str → Option Value) (base : Heap) (g : Gx) (k : Nat) (x : Str) (cl : List D → Hc → Res D) : Prop where
  ex : ∃ f fd ps, FnI P w K mg base g k f fd ps cl ∧ Binds K fd ps [] ∧ mg x = some (.ref f) ∧ PySem.W.keepIn K (.ref f) = true
theorem e_call (F : FnT X.prog X.w X.K X.mg X.base g k x cl) (c : Ct X g W k) (ha : PA X (a :: es) (aI g W fs)) (hg : Gl X x := by rfl) (hdb : (x == ("__debug__" : Str)) = false := by decide) (he : starEach (a :: es) X.env = (false, eval a X.env) :: starEach es X.env := by rfl)
    (hpl : (backTo pos (starEach es X.env)).any (·.1) = false := by rfl) : PE X (.Call (.Name x p) (a :: es) [] pos) (tI g W (callE cl fs)) := by
  obtain ⟨f, fd, ps, F, hb, hm, hk⟩ := F.ex
  refine ⟨fun pins s σ H Q I ⟨z, sl, hc, hs, st, h⟩ => ?_⟩
  refine wpAny_Call_Name_kw (ld_glob I hg hm ?_ hdb)
  refine PySem.W.callWith_K (h₀ := X.base) I.ok.mod.kin hk (thn (ha.run pos pins s σ H _ I (OutE.thenA (f := fs) hs st h)) fun us s1 ⟨vs, H1, I1, r, z1, ds, hc1, x1, hs1, st1, rd, o1⟩ => ⟨I1.kIn, ?_⟩) he hpl
  exact run_fnI F c hb I1 r st1 rd o1
end
/-! ### a new numbered list -/
theorem StR.newLoc {g : Gx} {z : Fz} {H : Hp} {hc : Hc} (st : StR g z H hc) {p : Addr} {u : HO} {o : Ob} (hp : H p = none) (new : ∀ z', FLe z z' → z'.ρ hc.next = some p → ObR g z' (upd H p u) p o) :
    ∃ z', Ext z H z' (upd H p u) ∧ StR g z' (upd H p u) (hc.new o) ∧ z'.ρ hc.next = some p := by
  have hF : z.F p = none := by
    cases e : z.F p with
    | none => rfl
    | some u => have := st.sub p u e; rw [hp] at this; cases this
  have hne : ∀ a v, H a = some v → a ≠ p := fun a v e q => by subst q; rw [hp] at e; cases e
  have nr := st.fresh hc.next (Nat.le_refl _)
  obtain ⟨ρ', hρ⟩ : ∃ ρ' : Nat → Option Addr, ρ' = fun n => if n = hc.next then some p else z.ρ n := ⟨_, rfl⟩
  have r1 : ρ' hc.next = some p := by rw [hρ]; exact if_pos rfl
  have r2 : ∀ n, n ≠ hc.next → ρ' n = z.ρ n := fun n h => by rw [hρ]; exact if_neg h
  have le : FLe z ⟨z.F, ρ'⟩ := ⟨fun _ _ e => e, fun n a e => by
    have : n ≠ hc.next := fun q => by subst q; rw [nr] at e; cases e
    show ρ' n = some a
    rw [r2 n this]; exact e⟩
  refine ⟨⟨z.F, ρ'⟩, ⟨le, fun a v e _ => by rw [upd_ne (hne a v e)]; exact e, fun a v e => ⟨v, by rw [upd_ne (hne a v e)]; exact e⟩, fun a v e k => ?_, fun n a e k => ?_⟩, ⟨fun a v e => ?_, fun n m a e1 e2 => ?_, fun n a e => ?_, fun n h => ?_, fun n v e => ?_⟩, r1⟩
  · have e' : z.F a = some v := e
    rw [k] at e'; cases e'
  · by_cases h : n = hc.next
    · subst h
      have e' : ρ' hc.next = some a := e
      rw [r1] at e'; cases e'; exact hp
    · have e' : ρ' n = some a := e
      rw [r2 n h, k] at e'; cases e'
  · have e' : z.F a = some v := e
    have := st.sub a v e'
    rw [upd_ne (hne a v this)]; exact this
  · have live : ∀ n, n ≠ hc.next → ρ' n ≠ some p := fun n h q => by
      rw [r2 n h] at q
      obtain ⟨v, hv⟩ := st.live n p q
      rw [hp] at hv; cases hv
    have e1' : ρ' n = some a := e1
    have e2' : ρ' m = some a := e2
    by_cases h : n = hc.next
    · by_cases h2 : m = hc.next
      · rw [h, h2]
      · subst h; rw [r1] at e1'; cases e1'; exact absurd e2' (live m h2)
    · by_cases h2 : m = hc.next
      · subst h2; rw [r1] at e2'; cases e2'; exact absurd e1' (live n h)
      · rw [r2 n h] at e1'; rw [r2 m h2] at e2'; exact st.inj n m a e1' e2'
  · have e' : ρ' n = some a := e
    by_cases h : n = hc.next
    · subst h; rw [r1] at e'; cases e'; exact ⟨u, upd_same⟩
    · rw [r2 n h] at e'
      obtain ⟨v, hv⟩ := st.live n a e'
      exact ⟨v, by rw [upd_ne (hne a v hv)]; exact hv⟩
  · have h' : hc.next + 1 ≤ n := h
    show ρ' n = none
    rw [r2 n (by omega)]
    exact st.fresh n (by omega)
  · rw [Hc.get_new] at e
    by_cases h : n = hc.next
    · rw [if_pos h] at e
      cases e
      subst h
      exact ⟨p, r1, hF, new _ le r1⟩
    · rw [if_neg h] at e
      obtain ⟨b, k1, k2, k3⟩ := st.obj n v e
      obtain ⟨v', hv'⟩ := st.live n b k1
      refine ⟨b, by show ρ' n = some b; rw [r2 n h]; exact k1, k2, ?_⟩
      cases v with
      | lst ds =>
        obtain ⟨xs, e1, e2⟩ := k3
        exact ⟨xs, by rw [upd_ne (hne b _ hv')]; exact e1, e2.mono le⟩
      | ins c fs =>
        obtain ⟨dx, vs, e1, e2⟩ := k3
        exact ⟨dx, vs, by rw [upd_ne (hne b _ hv')]; exact e1, e2.mono le⟩
      | dct ks es =>
        obtain ⟨vs, e1, el, e2⟩ := k3
        exact ⟨vs, by rw [upd_ne (hne b _ hv')]; exact e1, el, e2.mono le⟩
def newE (fs : Sl → Hc → Res (List D)) : Sl → Hc → Res D := fun sl hc => (fs sl hc).bind fun ds hc1 => if ds.length ≤ sizeLine then .ok (.loc hc1.next) (hc1.new (.lst ds)) else .bad
theorem e_new {X : Cx} {g : Gx} {W : WX} {es : List Expr} {fs : Sl → Hc → Res (List D)} {pos : Pos} (h : PA X es (aI g W fs)) : PE X (.List es pos) (tI g W (newE fs)) := by
  refine pe_imp (pe_lst h) fun σ H Q ⟨z, sl, hc, hs, st, h⟩ => ?_
  refine aI.mono (OutE.thenA (f := fs) hs st h) fun vs H1 ⟨z1, ds, hc1, x1, hs1, st1, r1, o1⟩ => ?_
  by_cases hl : ds.length ≤ sizeLine
  · simp only [hl, if_true] at o1
    refine ⟨by rw [← r1.length]; exact hl, fun p hp => ?_⟩
    obtain ⟨z2, x2, s2, r2⟩ := st1.newLoc (o := .lst ds) (u := .lst vs) hp fun z' le _ => ⟨vs, upd_same, r1.mono le⟩
    exact o1 _ _ _ x2 s2 (.loc r2)
  · simp only [hl, if_false] at o1
    exact o1.elim
end Bo

set_option Elab.async false
set_option linter.all false
set_option maxRecDepth 100000
set_option maxHeartbeats 4000000
set_option autoImplicit false
/-! Bo9: sets of ints and texts made of a list or tuple: their length, their sorted list. -/
namespace Bo
open PySem PySem.Spec PyProof.Rows L2

/-- an element: its key -/
def kEl (e : Int × Value) : Key := match e.2 with
  | .int k _ => .inl k
  | .str x _ => .inr x
  | _ => .inl 0
def ElOk (w : World) (e : Int × Value) : Prop := ∃ k : Key, keyIs k e.2 = true ∧ e.1 = keyH w k
theorem kEl_of {k : Key} {v : Value} {n : Int} (h : keyIs k v = true) : kEl (n, v) = k := by
  rcases keyIs_shape h with ⟨i, t, rfl, rfl⟩ | ⟨x, t, rfl, rfl⟩ <;> rfl
theorem scan_of {k : Key} {v : Value} (h : keyIs k v = true) : v.scannable = true := by
  rcases keyIs_shape h with ⟨i, t, rfl, rfl⟩ | ⟨x, t, rfl, rfl⟩ <;> rfl
theorem is_kEl {w : World} {e : Int × Value} (g : ElOk w e) (k : Key) : keyIs k e.2 = true ↔ kEl e = k := by
  obtain ⟨k0, h1, _⟩ := g
  constructor
  · intro h; obtain ⟨e1, e2⟩ := e; exact kEl_of h
  · intro h
    obtain ⟨e1, e2⟩ := e
    rw [kEl_of h1] at h
    rw [← h]; exact h1
section
variable {P : Program} {w : World}
theorem els_ok {l : List (Int × Value)} (g : ∀ e ∈ l, ElOk w e) : ElemsOf (mixKind P w) l := fun e he => by
  obtain ⟨k, h1, h2⟩ := g e he
  exact ⟨⟨k, h1, h2⟩, scan_of h1⟩
theorem mem_els {l : List (Int × Value)} (g : ∀ e ∈ l, ElOk w e) (k : Key) : k ∈ l.map kEl ↔ ∃ e ∈ l, keyIs k e.2 = true := by
  rw [List.mem_map]
  exact ⟨fun ⟨e, he, q⟩ => ⟨e, he, (is_kEl (g e he) k).2 q⟩, fun ⟨e, he, q⟩ => ⟨e, he, (is_kEl (g e he) k).1 q⟩⟩
end
/-- a set of ints and texts that can be walked: its members are ks, each once -/
def SetQ (w : World) (h : Heap) (a : Addr) (ks : List Key) : Prop :=
  ∃ o es ep t, h.get? a = some o ∧ o.ExactSet ∧ o.data = .set es ep t ∧ (∀ e ∈ es.toList, ElOk w e) ∧ ks.Nodup ∧ (es.toList.map kEl).Perm ks ∧ es.size < scanBound ∧ t.fits es.size = true ∧ Ris t.place.toList ∧ (w.params.followText "set-order" = true ∨ t.led = true)
theorem SetQ.at {w : World} {h h' : Heap} {a : Addr} {ks : List Key} (R : SetQ w h a ks) (k : ∀ o, h.get? a = some o → h'.get? a = some o) : SetQ w h' a ks := by
  obtain ⟨o, es, ep, t, ho, r⟩ := R
  exact ⟨o, es, ep, t, k o ho, r⟩
/-- one more -/
def hasKey (ks : List Key) (k : Key) : Bool := ks.any fun j => decide (j = k)
theorem hasKey_iff {ks : List Key} {k : Key} : hasKey ks k = true ↔ k ∈ ks := by
  unfold hasKey
  rw [List.any_eq_true]
  exact ⟨fun ⟨j, h1, h2⟩ => of_decide_eq_true h2 ▸ h1, fun h => ⟨k, h, decide_eq_true rfl⟩⟩
def addKey (ks : List Key) (k : Key) : List Key := if hasKey ks k = true then ks else k :: ks
section
variable {P : Program} {w : World} {A : Around} {E : Value → Shared → Prop} {s : Shared} {a : Addr} {ks : List Key}
theorem put_end {give : Bool → Sem Unit} (hg : ∀ (b : Bool) (s₁ : Shared) (Q' : Unit → Shared → Prop), Q' () s₁ → wpAny (model P w) A (give b) Q' E s₁)
    {o : Obj} {es : Array (Int × Value)} {ep : Nat} {t : SetTable} (ho : s.heap.get? a = some o) (hex : o.ExactSet) (hd : o.data = .set es ep t)
    {es1 : Array (Int × Value)} {t2 : SetTable} {ks' : List Key} (g1 : ∀ e ∈ es1.toList, ElOk w e) (nd1 : ks'.Nodup) (m1 : (es1.toList.map kEl).Perm ks')
    (hb1 : es1.size < scanBound) (hf2 : t2.fits es1.size = true) (hr : Ris t2.place.toList) (hl : w.params.followText "set-order" = true ∨ t2.led = true) {was : Bool} {R : Option Bool → Shared → Prop}
    (hR : ∀ h', Heap.SameBut a s.heap h' → SetQ w h' a ks' → R (some true) { s with heap := h' }) :
    wpAny (model P w) A (do
        storeSet a es1 t2
        if (!was && t2.tooFull) = true then do
            give (relayAll t2 es1 (SetTable.grown es1.size)).2.2
            storeSet a (relayAll t2 es1 (SetTable.grown es1.size)).1 (relayAll t2 es1 (SetTable.grown es1.size)).2.1
            pure (some true)
          else pure (some true)) R E s := by
  refine wpAny_bind (wpAny_storeSet_of ho hd ?_ (fits_of_scanBound hb1))
  have k1 := store_at (es' := es1) (t' := t2) ho hd
  have b1 := Heap.SameBut.update s.heap a (Obj.putSet es1 t2)
  split
  · have pm := relayAll_perm t2 es1 (SetTable.grown es1.size)
    have f3 := relayAll_fits t2 es1 (SetTable.grown es1.size)
    have r3 := relayAll_ris t2 es1 (SetTable.grown es1.size)
    have l3 := relayAll_led t2 es1 (SetTable.grown es1.size)
    generalize relayAll t2 es1 (SetTable.grown es1.size) = Z at pm f3 r3 l3 ⊢
    obtain ⟨es2, t3, gave⟩ := Z
    dsimp only at pm f3 r3 l3 ⊢
    have hz : es2.size = es1.size := by rw [← Array.length_toList, pm.length_eq, Array.length_toList]
    have b2 : es2.size < scanBound := by rw [hz]; exact hb1
    refine wpAny_bind (hg _ _ _ (wpAny_bind (wpAny_storeSet_of k1 rfl ?_ (fits_of_scanBound b2))))
    have k2 := store_at (es' := es2) (t' := t3) k1 rfl
    exact wpAny_pure (hR _ (b1.trans (Heap.SameBut.update _ a _)) ⟨_, es2, _, t3, k2, hex, rfl, fun e he => g1 e (pm.mem_iff.mp he), nd1, (pm.map kEl).trans m1, b2, f3, r3, hl.imp id fun z => by rw [l3]; exact z⟩)
  · exact wpAny_pure (hR _ b1 ⟨_, es1, _, t2, k1, hex, rfl, g1, nd1, m1, hb1, hf2, hr, hl⟩)
theorem put_hashed {k : Key} {x : Value} {Q : Bool → Shared → Prop} (hk : keyIs k x = true) (R : SetQ w s.heap a ks) (room : ks.length + 1 < scanBound)
    (hQ : ∀ (b : Bool) h', Heap.SameBut a s.heap h' → SetQ w h' a (addKey ks k) → Q b { s with heap := h' }) :
    wpAny (model P w) A (setAddHashed a x ((mixKind P w).hash k)) Q E s := by
  obtain ⟨o, es, ep, t, ho, hex, hd, g, nd, hm, hb, hf, hr, hl⟩ := R
  have hsc := scan_of hk
  have hel : ElemsOf (mixKind P w) es.toList := els_ok g
  have hn : es.size = ks.length := by rw [← hm.length_eq, List.length_map, Array.length_toList]
  unfold setAddHashed setAddHashedIn
  refine wpAny_holding (wpAny_bind (wpAny_setState_of ho hd hf ?_))
  dsimp only
  rw [byScan_of hsc hb hel]
  simp only [↓reduceIte]
  unfold setAddByScan
  refine wpAny_bind (wpAny_bind (wpAny_rule (wpAny_bind (wpAny_setScan_of (knd := mixKind P w) hk ho hd hf hel ?_))))
  cases hfi : List.findIdx? (fun e => (mixKind P w).is k e.2) es.toList with
  | some j =>
    dsimp only
    obtain ⟨hj, pj, _⟩ := List.findIdx?_eq_some_iff_getElem.mp hfi
    have hin : k ∈ ks := hm.mem_iff.mp ((mem_els g k).2 ⟨es.toList[j], List.getElem_mem hj, pj⟩)
    have e1 : addKey ks k = ks := if_pos (hasKey_iff.mpr hin)
    refine wpAny_pure (wpAny_pure ?_)
    exact hQ _ s.heap (Heap.SameBut.refl a s.heap) (by rw [e1]; exact ⟨o, es, ep, t, ho, hex, hd, g, nd, hm, hb, hf, hr, hl⟩)
  | none =>
    dsimp only
    have hnk : k ∉ ks := fun z => by
      obtain ⟨e, he, q⟩ := (mem_els g k).1 (hm.mem_iff.mpr z)
      have c := List.findIdx?_eq_none_iff.mp hfi e he
      have q' : (mixKind P w).is k e.2 = true := q
      rw [q'] at c
      cases c
    have e1 : addKey ks k = k :: ks := if_neg fun z => hnk (hasKey_iff.mp z)
    have way : ∀ (b : Bool) {s₁ : Shared} {Q' : Unit → Shared → Prop}, Q' () s₁ → wpAny (model P w) A (match b with | true => rule "set.scan.the-table-gave-way" | false => pure ()) Q' E s₁ := by
      intro b s₁ Q' q
      cases b <;> first | exact wpAny_pure q | exact wpAny_rule q
    have pm := layNew_perm t es ((mixKind P w).hash k) x
    have f1 := layNew_fits t es ((mixKind P w).hash k) x
    have r1 := layNew_ris t es ((mixKind P w).hash k) x hr
    have l1 := layNew_led t es ((mixKind P w).hash k) x
    generalize layNew t es ((mixKind P w).hash k) x = Z at pm f1 r1 l1 ⊢
    obtain ⟨es1, t1, was, gave⟩ := Z
    dsimp only at pm f1 r1 l1 ⊢
    rw [Array.toList_push] at pm
    have pc : es1.toList.Perm (((mixKind P w).hash k, x) :: es.toList) := pm.trans (List.perm_append_singleton _ _)
    have pk : (es1.toList.map kEl).Perm (k :: ks) := by
      have q := pc.map kEl
      rw [List.map_cons, kEl_of hk] at q
      exact q.trans (hm.cons k)
    have g1 : ∀ e ∈ es1.toList, ElOk w e := fun e he => by
      rcases List.mem_cons.mp (pc.mem_iff.mp he) with z | z
      · rw [z]; exact ⟨k, hk, rfl⟩
      · exact g e z
    have nd1 : (k :: ks).Nodup := List.nodup_cons.mpr ⟨hnk, nd⟩
    have hz : es1.size = ks.length + 1 := by rw [← Array.length_toList, pc.length_eq, List.length_cons, Array.length_toList, hn]
    have b1 : es1.size < scanBound := by rw [hz]; exact room
    have led : w.params.followText "set-order" = true ∨ t1.led = true := hl.imp id fun z => by rw [l1]; exact z
    have fin : ∀ h', Heap.SameBut a s.heap h' → SetQ w h' a (k :: ks) → Q true { s with heap := h' } := fun h' sb r => hQ true h' sb (by rw [e1]; exact r)
    refine wpAny_bind (way _ ?_)
    split
    · refine wpAny_bind ?_
      rw [hashByValue_scannable 8 hsc]
      refine wpAny_pure ?_
      refine put_end ?_ ho hex hd g1 nd1 pk b1 ?_ ?_ ?_ ?_
      · intro b s₁ Q' q; exact way b q
      · first | (split <;> first | exact f1 | exact SetTable.fits_plain_off f1) | exact f1
      · first | (split <;> exact r1) | exact r1
      · first | (split <;> exact led) | exact led
      · intro h' sb r; dsimp only; exact wpAny_pure (fin h' sb r)
    · refine wpAny_bind (wpAny_pure ?_)
      simp only [↓reduceIte]
      refine put_end ?_ ho hex hd g1 nd1 pk b1 f1 r1 led ?_
      · intro b s₁ Q' q; exact way b q
      · intro h' sb r; dsimp only; exact wpAny_pure (fin h' sb r)
/-! ### set(x) -/
theorem new_set1 (v : Value) {Q₁ : Value → Shared → Prop}
    (h : Q₁ (.ref s.heap.objs.size) { s with heap := s.heap.push { cls := .type "set", dict := none, data := .set #[] 0 (.fresh 0 0 (!w.params.followText "set-order")) } }) :
    codeAny (model P w) A (.call (.builtin "set.__new__") ⟨[.type "set", v], []⟩) (wants Q₁ E) s := by
  refine codeAny_of_tree ?_
  show wpAny (model P w) A.in1 (do checkBuiltinCall "set.__new__" ⟨[.type "set", v], []⟩; again (.builtin "set.__new__" ⟨[.type "set", v], []⟩)) _ _ s
  refine wpAny_bind (wpAny_of_eq (PySem.F.newCall_set_1 v) (wpAny_pure ⟨plainId_quiet PySem.F.plain_set_new _, codeAny_builtin PySem.F.entry_set_new ?_⟩))
  rw [Around.under_plainId PySem.F.plain_set_new _]
  unfold Builtin.«set.__new__» Builtin.Frozenset.newClass
  have hsub := sub_set_self
  obtain ⟨hp, g, d, tk, os⟩ := s
  dsimp only
  wp_walk
  refine wpAny_askSetting (wpAny_pure ?_)
  dsimp only
  simp only [newObj]
  exact wpAny_bind (wpAny_alloc (wpAny_pure (wpAny_pure h)))
theorem setQ_fresh {h : Heap} (w : World) : SetQ w (h.push { cls := .type "set", dict := none, data := .set #[] 0 (.fresh 0 0 (!w.params.followText "set-order")) }) h.objs.size [] :=
  ⟨_, #[], 0, _, Heap.get?_push_size _ rfl, ⟨rfl, rfl, rfl⟩, rfl, (fun e he => by simp at he), (by simp), (by simp), (by decide), (by rfl), List.Pairwise.nil, by
    show w.params.followText "set-order" = true ∨ (!w.params.followText "set-order") = true
    cases w.params.followText "set-order" <;> simp⟩
/-- the keys of the values, each once, the last new one first -/
def addAll (ks : List Key) : List Key → List Key
  | [] => ks
  | k :: r => addAll (addKey ks k) r
theorem addKey_len (ks : List Key) (k : Key) : (addKey ks k).length ≤ ks.length + 1 := by
  unfold addKey; split <;> simp
end
section
variable {P : Program} {w : World} {A : Around} {R : Result → Shared → Prop} {I : Addr} {fp wr : List Addr} {G : Array GenState → Array GenState → Prop} {n : Nat} {Pv : Nat → Value → Prop} {St' : Nat → Shared → Prop}
theorem upd_loop (W : WalksS P w A.in1 I fp wr G n Pv St') (S : Addr) (hSf : S ∉ fp) (vals : List Key) (hn : vals.length = n) (hv : ∀ i v, Pv i v → ∃ k, vals[i]? = some k ∧ keyIs k v = true) :
    ∀ (m i : Nat) (s : Shared) (ks : List Key), n - i = m → i ≤ n → St' i s → SetQ w s.heap S ks → ks.length + m + 1 < scanBound →
      (∀ s', Moved (S :: wr) G s s' → SetQ w s'.heap S (addAll ks (vals.drop i)) → R (.ok (.ret .none)) s') →
      codeAny (model P w) A (.builtin "set.update.loop" ⟨[.ref S, .ref I], []⟩) R s := by
  have hSw : S ∉ wr := fun h => hSf (W.sub _ h)
  have sub : ∀ b ∈ wr, b ∈ S :: wr := fun b hb => List.mem_cons_of_mem _ hb
  intro m
  induction m with
  | zero =>
    intro i s ks hk hi hst hS hroom hR
    have hin : i = n := by omega
    subst hin
    refine codeAny_builtin PyProof.Rows.F.entry_set_update_loop ?_
    rw [Around.under_plainId PyProof.Rows.F.plain_set_update_loop _]
    show wpAny (model P w) A.in1 (pyNext (.ref I) >>= _) _ _ s
    refine wpAny_bind (W.done s _ _ hst fun s' hm => ?_)
    show wpAny (model P w) A.in1 (ret Value.none) _ _ s'
    refine wpAny_pure (hR s' (hm.mono sub) ?_)
    rw [← hn, List.drop_length]
    exact hS.at fun o ho => hm.heap S o hSw ho
  | succ m ih =>
    intro i s ks hk hi hst hS hroom hR
    have hlt : i < n := by omega
    refine codeAny_builtin PyProof.Rows.F.entry_set_update_loop ?_
    rw [Around.under_plainId PyProof.Rows.F.plain_set_update_loop _]
    show wpAny (model P w) A.in1 (pyNext (.ref I) >>= _) _ _ s
    refine wpAny_bind (W.item i s _ _ hlt hst fun v s' hP hst' hm => ?_)
    obtain ⟨k, hk1, hk2⟩ := hv i v hP
    have hS' : SetQ w s'.heap S ks := hS.at fun o ho => hm.heap S o hSw ho
    show wpAny (model P w) A.in1 (holding [v] (setAdd S v) >>= _) _ _ s'
    refine wpAny_bind (wpAny_holding ?_)
    unfold setAdd
    refine wpAny_holding (wpAny_bind ((mixKind P w).pyHash (k := k) hk2 ?_))
    refine put_hashed (s := { s' with toks := s'.toks + 1 }) hk2 hS' (by omega) fun b h' sb hS2 => ?_
    have e1 : vals.drop i = k :: vals.drop (i + 1) := by
      have hl : i < vals.length := by omega
      rw [List.drop_eq_getElem_cons hl]
      rw [List.getElem?_eq_getElem hl] at hk1
      cases hk1; rfl
    refine wpAny_pure ⟨plainId_quiet PyProof.Rows.F.plain_set_update_loop _, ih (i + 1) _ (addKey ks k) (by omega) hlt (W.frame _ s' _ _ hst' (Nat.le_succ _) fun b hb o e => ?_) hS2 (by have := addKey_len ks k; omega) fun s'' hm'' hS'' => ?_⟩
    · rw [sb.2 b (fun h : b = S => hSf (by rw [← h]; exact hb))]; exact e
    · rw [e1] at hR
      refine hR s'' (Moved.trans W.gtrans ((hm.mono sub).then_heap (Nat.le_succ _) fun b o hb e => ?_) hm'') hS''
      rw [sb.2 b (fun h : b = S => hb (by rw [h]; exact List.mem_cons_self))]; exact e
end
abbrev nset (w : World) : Obj := { cls := .type "set", dict := none, data := .set #[] 0 (.fresh 0 0 (!w.params.followText "set-order")) }
section
variable {P : Program} {w : World} {A : Around} {E : Value → Shared → Prop} {s : Shared}
theorem set_list {l : Addr} {items : Array Value} {vals : List Key} {Q : Value → Shared → Prop} (hh : A.handled = none) (hl : s.heap.IsList l items) (hn : vals.length = items.size) (hv : ∀ (i : Nat) (v : Value), items[i]? = some v → ∃ k, vals[i]? = some k ∧ keyIs k v = true) (hb : items.size + 1 < scanBound)
    (h : ∀ (h' : Heap) (tk : Nat), SetQ w h' s.heap.objs.size (addAll [] vals) → (∀ b o, b < s.heap.objs.size → s.heap.get? b = some o → h'.get? b = some o) → Q (.ref s.heap.objs.size) { s with heap := h', toks := tk }) :
    wpAny (model P w) A (call (.type "set") [.ref l]) Q E s := by
  obtain ⟨c, tl, hmro⟩ := PySem.F.called_set.mro
  have a1 := PySem.F.called_set.made
  have a2 := PySem.F.called_set.sub
  refine wpAny_call (codeAny_of_tree ?_)
  show wpAny (model P w) _ (callAny (.type "set") _) _ _ s
  refine wpAny_pure ⟨Code.quiet_builtin _ (by decide +kernel), codeAny_builtin PySem.F.entry_type_call ?_⟩
  rw [Around.under_plain (weight_type_call_type "set" [.ref l] []) rfl]
  have a3 := PySem.F.called_set.notType
  have a4 := PySem.F.called_set.canCreate
  have a5 := PySem.F.typeCall_set_1 (.ref l)
  repeat (any_goals (first | assumption | wp_step))
  refine codeAny_mono (new_set1 (.ref l) (E := E) (Q₁ := fun obj s₁ => obj = .ref s.heap.objs.size ∧ s₁ = { s with heap := s.heap.push (nset w) }) ⟨rfl, rfl⟩) fun r s₁ hr => ?_
  cases r with
  | error e => exact hr
  | ok fl =>
    cases fl with
    | ret obj =>
      obtain ⟨rfl, rfl⟩ := hr
      have b1 : (s.heap.push (nset w)).get? s.heap.objs.size = some (nset w) := Heap.get?_push_size _ rfl
      have b2 : Shared.TypeIs { s with heap := s.heap.push (nset w) } (.ref s.heap.objs.size) "set" := ⟨_, b1, rfl⟩
      have b3 := PySem.F.called_set.init.lookup
      have b4 := PySem.F.called_set.init.bind (.ref s.heap.objs.size)
      repeat (any_goals (first | assumption | wp_step))
      refine codeAny_mono (codeAny_call_builtin (R := wants (fun r s₂ => r = .none ∧ ∃ h' tk, s₂ = { s with heap := h', toks := tk } ∧ SetQ w h' s.heap.objs.size (addAll [] vals) ∧ (∀ b o, b < s.heap.objs.size → s.heap.get? b = some o → h'.get? b = some o)) E)
        PySem.F.called_set.init.plain PySem.F.entry_set_init (check_set_init_1 b2 ?_)) fun r₂ s₂ hr₂ => ?_
      · obtain ⟨⟨ocls, odict, odata, oslots⟩, hol, hcl, nl, hdl⟩ := hl
        simp only at hcl hdl
        subst hcl; subst hdl
        have b5 : (s.heap.push (nset w)).get? l = some { cls := .type "list", dict := odict, data := .seq items nl, slots := oslots } := Heap.get?_push_of_some _ hol
        have b6 := PySem.F.sub_list_set
        have b7 := PySem.F.sub_list_frozenset
        have b8 : (Value.type "list" == Value.type "dict") = false := by decide
        have b9 : (s.heap.push (nset w)).IsList l items := ⟨_, b5, rfl, nl, rfl⟩
        unfold Builtin.«set.__init__» noKeywords Builtin.Frozenset.updateFrom
        generalize hPI : pyIter = PI
        wp_walk
        subst hPI
        refine wpAny_pyIter_list b9 (wpAny_bind (wpAny_runValue ?_))
        have c1 : l < s.heap.objs.size := Heap.lt_size hol
        have c2 : A.in1.in1.in1.handled = none := by simp [hh]
        have c3 : l ≠ (s.heap.push (nset w)).objs.size := by rw [Heap.size_push]; exact Nat.ne_of_lt (Nat.lt_succ_of_lt c1)
        have c4 : s.heap.objs.size ∉ [(s.heap.push (nset w)).objs.size, l] := by
          rw [Heap.size_push]; simp only [List.mem_cons, List.not_mem_nil, or_false, not_or]; exact ⟨Nat.ne_of_lt (Nat.lt_succ_self _), Nat.ne_of_gt c1⟩
        refine upd_loop ((Walks.list c2 _ l c3 items).toS) s.heap.objs.size c4 vals hn hv (items.size - 0) 0 _ [] (by omega) (Nat.zero_le _) ⟨⟨_, Heap.get?_push_size _ rfl, rfl, rfl⟩, (b9.push _)⟩ ?hS0 (by simpa using hb) ?hR
        case hS0 => exact (setQ_fresh (h := s.heap) w).at fun o ho => Heap.get?_push_of_some _ ho
        case hR =>
          intro s' hm hS'
          obtain ⟨h', g', d', tk', os'⟩ := s'
          have eg : g' = s.gens := hm.gens
          have ed : d' = s.drawn := hm.drawn
          have eo : os' = s.os := hm.os
          subst eg; subst ed; subst eo
          refine wpAny_pure ?_
          show wpAny _ _ (ret Value.none) _ _ _
          refine wpAny_pure ⟨rfl, h', tk', rfl, hS', fun b o hb e => ?_⟩
          refine hm.heap b o ?_ (Heap.get?_push_of_some _ (Heap.get?_push_of_some _ e))
          rw [Heap.size_push]
          simp only [List.mem_cons, List.not_mem_nil, or_false, not_or]
          exact ⟨Nat.ne_of_lt hb, Nat.ne_of_lt (Nat.lt_succ_of_lt hb)⟩
      · cases r₂ with
        | error e => exact hr₂
        | ok fl₂ =>
          cases fl₂ with
          | ret r =>
            obtain ⟨rfl, h', tk, rfl, hS', hk'⟩ := hr₂
            repeat (any_goals (first | assumption | wp_step))
            exact h _ _ hS' hk'
          | _ => exact hr₂.elim
    | _ => exact hr.elim

theorem set_tuple {l : Addr} {items : Array Value} {vals : List Key} {Q : Value → Shared → Prop} (hh : A.handled = none) (hl : s.heap.IsTuple l items) (hn : vals.length = items.size) (hv : ∀ (i : Nat) (v : Value), items[i]? = some v → ∃ k, vals[i]? = some k ∧ keyIs k v = true) (hb : items.size + 1 < scanBound)
    (h : ∀ (h' : Heap) (tk : Nat), SetQ w h' s.heap.objs.size (addAll [] vals) → (∀ b o, b < s.heap.objs.size → s.heap.get? b = some o → h'.get? b = some o) → Q (.ref s.heap.objs.size) { s with heap := h', toks := tk }) :
    wpAny (model P w) A (call (.type "set") [.ref l]) Q E s := by
  obtain ⟨c, tl, hmro⟩ := PySem.F.called_set.mro
  have a1 := PySem.F.called_set.made
  have a2 := PySem.F.called_set.sub
  refine wpAny_call (codeAny_of_tree ?_)
  show wpAny (model P w) _ (callAny (.type "set") _) _ _ s
  refine wpAny_pure ⟨Code.quiet_builtin _ (by decide +kernel), codeAny_builtin PySem.F.entry_type_call ?_⟩
  rw [Around.under_plain (weight_type_call_type "set" [.ref l] []) rfl]
  have a3 := PySem.F.called_set.notType
  have a4 := PySem.F.called_set.canCreate
  have a5 := PySem.F.typeCall_set_1 (.ref l)
  repeat (any_goals (first | assumption | wp_step))
  refine codeAny_mono (new_set1 (.ref l) (E := E) (Q₁ := fun obj s₁ => obj = .ref s.heap.objs.size ∧ s₁ = { s with heap := s.heap.push (nset w) }) ⟨rfl, rfl⟩) fun r s₁ hr => ?_
  cases r with
  | error e => exact hr
  | ok fl =>
    cases fl with
    | ret obj =>
      obtain ⟨rfl, rfl⟩ := hr
      have b1 : (s.heap.push (nset w)).get? s.heap.objs.size = some (nset w) := Heap.get?_push_size _ rfl
      have b2 : Shared.TypeIs { s with heap := s.heap.push (nset w) } (.ref s.heap.objs.size) "set" := ⟨_, b1, rfl⟩
      have b3 := PySem.F.called_set.init.lookup
      have b4 := PySem.F.called_set.init.bind (.ref s.heap.objs.size)
      repeat (any_goals (first | assumption | wp_step))
      refine codeAny_mono (codeAny_call_builtin (R := wants (fun r s₂ => r = .none ∧ ∃ h' tk, s₂ = { s with heap := h', toks := tk } ∧ SetQ w h' s.heap.objs.size (addAll [] vals) ∧ (∀ b o, b < s.heap.objs.size → s.heap.get? b = some o → h'.get? b = some o)) E)
        PySem.F.called_set.init.plain PySem.F.entry_set_init (check_set_init_1 b2 ?_)) fun r₂ s₂ hr₂ => ?_
      · obtain ⟨⟨ocls, odict, odata, oslots⟩, hol, hcl, nl, hdl⟩ := hl
        simp only at hcl hdl
        subst hcl; subst hdl
        have b5 : (s.heap.push (nset w)).get? l = some { cls := .type "tuple", dict := odict, data := .seq items nl, slots := oslots } := Heap.get?_push_of_some _ hol
        have b6 := PySem.F.sub_tuple_set
        have b7 := PySem.F.sub_tuple_frozenset
        have b8 : (Value.type "tuple" == Value.type "dict") = false := by decide
        have b9 : (s.heap.push (nset w)).IsTuple l items := ⟨_, b5, rfl, nl, rfl⟩
        unfold Builtin.«set.__init__» noKeywords Builtin.Frozenset.updateFrom
        generalize hPI : pyIter = PI
        wp_walk
        subst hPI
        refine wpAny_pyIter_tuple b9 (wpAny_bind (wpAny_runValue ?_))
        have c1 : l < s.heap.objs.size := Heap.lt_size hol
        have c2 : A.in1.in1.in1.handled = none := by simp [hh]
        have c3 : l ≠ (s.heap.push (nset w)).objs.size := by rw [Heap.size_push]; exact Nat.ne_of_lt (Nat.lt_succ_of_lt c1)
        have c4 : s.heap.objs.size ∉ [(s.heap.push (nset w)).objs.size, l] := by
          rw [Heap.size_push]; simp only [List.mem_cons, List.not_mem_nil, or_false, not_or]; exact ⟨Nat.ne_of_lt (Nat.lt_succ_self _), Nat.ne_of_gt c1⟩
        refine upd_loop ((Walks.tuple c2 _ l c3 items).toS) s.heap.objs.size c4 vals hn hv (items.size - 0) 0 _ [] (by omega) (Nat.zero_le _) ⟨⟨_, Heap.get?_push_size _ rfl, rfl, rfl⟩, (b9.push _)⟩ ?hS0 (by simpa using hb) ?hR
        case hS0 => exact (setQ_fresh (h := s.heap) w).at fun o ho => Heap.get?_push_of_some _ ho
        case hR =>
          intro s' hm hS'
          obtain ⟨h', g', d', tk', os'⟩ := s'
          have eg : g' = s.gens := hm.gens
          have ed : d' = s.drawn := hm.drawn
          have eo : os' = s.os := hm.os
          subst eg; subst ed; subst eo
          refine wpAny_pure ?_
          show wpAny _ _ (ret Value.none) _ _ _
          refine wpAny_pure ⟨rfl, h', tk', rfl, hS', fun b o hb e => ?_⟩
          refine hm.heap b o ?_ (Heap.get?_push_of_some _ (Heap.get?_push_of_some _ e))
          rw [Heap.size_push]
          simp only [List.mem_cons, List.not_mem_nil, or_false, not_or]
          exact ⟨Nat.ne_of_lt hb, Nat.ne_of_lt (Nat.lt_succ_of_lt hb)⟩
      · cases r₂ with
        | error e => exact hr₂
        | ok fl₂ =>
          cases fl₂ with
          | ret r =>
            obtain ⟨rfl, h', tk, rfl, hS', hk'⟩ := hr₂
            repeat (any_goals (first | assumption | wp_step))
            exact h _ _ hS' hk'
          | _ => exact hr₂.elim
    | _ => exact hr.elim

end
end Bo

set_option Elab.async false
set_option linter.all false
set_option maxRecDepth 100000
set_option maxHeartbeats 4000000
set_option autoImplicit false
/-! Bo10: sorted, sorted(set(..)), len(set(..)), join, displays of dicts, -x. -/
namespace Bo
open PySem PySem.Spec PyProof.Rows L2

/-! ### sorted -/
/-- the data of a value that has one -/
def pyD (d : D) : PyData := (toPy d).getD .none
def leD (a b : D) : Bool := PySem.W.dataLe false pyD a b
def isTup1 : PyData → Bool
  | .tuple (_ :: _) => true
  | _ => false
def noTup : PyData → Bool
  | .none | .tuple _ => false
  | _ => true
def sortOk (ds : List D) : Bool := (toPys ds).isSome && (decide (ds.length ≤ sizeLine) && ((ds.map pyD).all (fun p => (ds.map pyD).all (PySem.W.alike p)) && (((ds.map pyD).all isTup1 || (ds.map pyD).all noTup) && (ds.map pyD).all fun p => decide (p.depth ≤ 64))))
def sortL (ds : List D) : List D := ds.mergeSort leD
theorem toPys_each : ∀ {ds : List D} {ps : List PyData}, toPys ds = some ps → ∀ d ∈ ds, toPy d = some (pyD d)
  | [], _, _, d, h => by cases h
  | e :: ds, ps, q, d, h => by
    simp only [toPys, Option.bind_eq_some_iff, Option.map_eq_some_iff] at q
    obtain ⟨p, h1, ps', h2, rfl⟩ := q
    rcases List.mem_cons.mp h with rfl | h
    · unfold pyD; rw [h1]; rfl
    · exact toPys_each h2 d h
theorem sortOk_parts {ds : List D} (h : sortOk ds = true) : (∀ d ∈ ds, toPy d = some (pyD d)) ∧ ds.length ≤ sizeLine ∧ PySem.W.AllAlike (ds.map pyD) ∧ PySem.W.Sortable (ds.map pyD) ∧ ∀ d ∈ ds, (pyD d).depth ≤ 64 := by
  unfold sortOk at h
  simp only [Bool.and_eq_true, decide_eq_true_eq, Bool.or_eq_true] at h
  obtain ⟨h1, h2, h3, h4, h5⟩ := h
  obtain ⟨ps, e⟩ := Option.isSome_iff_exists.mp h1
  refine ⟨toPys_each e, h2, fun p hp q hq => List.all_eq_true.mp (List.all_eq_true.mp h3 p hp) q hq, ?_, fun d hd => ?_⟩
  · rcases h4 with h4 | h4
    · refine .inl fun p hp => ?_
      have := List.all_eq_true.mp h4 p hp
      cases p with
      | tuple xs => cases xs with
        | nil => cases this
        | cons x r => exact ⟨x, r, rfl⟩
      | _ => cases this
    · refine .inr fun p hp => ?_
      have := List.all_eq_true.mp h4 p hp
      exact ⟨fun e => (by subst e; cases this), fun xs e => (by subst e; cases this)⟩
  · exact of_decide_eq_true (List.all_eq_true.mp h5 _ (List.mem_map.mpr ⟨d, hd, rfl⟩))
/-- pairs of a value and its datum -/
theorem pair_map {g : Gx} {z : Fz} : ∀ {ds : List D} {xs : List V}, RelDs g z ds xs → ∃ bs : List (V × D), bs.map (·.1) = xs ∧ bs.map (·.2) = ds ∧ ∀ b ∈ bs, RelD g z b.2 b.1
  | _, _, .nil => ⟨[], rfl, rfl, fun b hb => by cases hb⟩
  | _, _, .cons h t => by
    obtain ⟨bs, h1, h2, h3⟩ := pair_map t
    refine ⟨(_, _) :: bs, by rw [List.map_cons, h1], by rw [List.map_cons, h2], fun b hb => ?_⟩
    rcases List.mem_cons.mp hb with rfl | hb
    · exact h
    · exact h3 b hb
theorem rel_map {g : Gx} {z : Fz} : ∀ {bs : List (V × D)}, (∀ b ∈ bs, RelD g z b.2 b.1) → RelDs g z (bs.map (·.2)) (bs.map (·.1))
  | [], _ => .nil
  | b :: bs, h => .cons (h b List.mem_cons_self) (rel_map fun c hc => h c (List.mem_cons_of_mem _ hc))
theorem vals_each : ∀ {bs : List (V × D)} {us : List Value}, Vals (bs.map (·.1)) us → PySem.W.EachIs (fun (u : Value) (b : V × D) => RelV b.1 u) us bs
  | [], _, r => by cases r; exact .nil
  | b :: bs, _, r => by
    cases r with
    | cons h t => exact .cons h (vals_each t)
theorem each_vals : ∀ {bs : List (V × D)} {us : List Value}, PySem.W.EachIs (fun (u : Value) (b : V × D) => RelV b.1 u) us bs → Vals (bs.map (·.1)) us
  | _, _, .nil => .nil
  | _, _, .cons h t => .cons h (each_vals t)
theorem each_and {α β : Type} {R S : α → β → Prop} : ∀ {as : List α} {bs : List β}, PySem.W.EachIs R as bs → (∀ a b, b ∈ bs → R a b → S a b) → PySem.W.EachIs S as bs
  | _, _, .nil, _ => .nil
  | _, _, .cons h t, k => .cons (k _ _ List.mem_cons_self h) (each_and t fun a b hb => k a b (List.mem_cons_of_mem _ hb))
theorem sort_snd (bs : List (V × D)) : (bs.mergeSort (PySem.W.dataLe false fun b => pyD b.2)).map (·.2) = sortL (bs.map (·.2)) := by
  unfold sortL
  rw [List.map_mergeSort (r := PySem.W.dataLe false fun b => pyD b.2) (s := leD) (f := fun b : V × D => b.2)]
  intro a _ b _
  rfl

theorem leD_total : PySem.W.TotalLe leD := by
  have : leD = PySem.W.dataLe false pyD := by funext a b; rfl
  rw [this]; exact PySem.W.sortLe_total _ _ _
section
variable {X : Cx} {g : Gx} {W : WX} {k : Nat}
def sortedD (hc : Hc) : List D → Option D
  | [d] => (hc.lst? d).bind fun ds => if sortOk ds then some (.lst (sortL ds)) else none
  | _ => none
theorem b_sorted (c : Ct X g W k) : CallR X (.builtin "sorted") (rA g sortedD) := by
  intro pins s σ H xs us Q I r ⟨z, hc, ds, rr, st, rd, er, q⟩
  cases rd with
  | nil => cases er
  | cons h t => cases t with
    | cons _ _ => cases er
    | nil =>
      obtain ⟨es, e1, e2⟩ := Option.bind_eq_some_iff.mp er
      split at e2
      · rename_i hs
        cases e2
        obtain ⟨a, ys, rfl, hl, rl⟩ := st.list e1 h
        obtain ⟨p1, p2, p3, p4, p5⟩ := sortOk_parts hs
        obtain ⟨bs, b1, b2, b3⟩ := pair_map rl
        rw [← c.hK] at hl
        obtain ⟨its, rv, pl, hz⟩ := I.list hl
        rw [Vals.ref1 r]
        subst b1 b2
        have ev := vals_each rv
        have hdp : ∀ (u : Value) (b : V × D), b ∈ bs → RelV b.1 u → ∃ as, Reads s.heap u (pyD b.2) as := fun u b hb hu =>
          Dp.reads I _ b.1 u (by rw [c.hK]; exact toPy_dp st.sub (b3 b hb) (p1 b.2 (List.mem_map.mpr ⟨b, hb, rfl⟩))) hu
        rw [List.map_map] at p3 p4
        refine PySem.W.sorted_data (R := fun (u : Value) (b : V × D) => RelV b.1 u) (enc := fun b => pyD b.2) (bs := bs) pl.isList ev (each_and ev hdp) p3 p4 (by simpa using p2) (fun b hb => ?_) fun out ho eo => ?_
        · have h1 := p5 b.2 (List.mem_map.mpr ⟨b, hb, rfl⟩)
          have h2 := c.room.un
          omega
        · have hperm := List.mergeSort_perm bs (PySem.W.dataLe false fun b => pyD b.2)
          have rel2 : RelDs g z (sortL (bs.map (·.2))) ((bs.mergeSort (PySem.W.dataLe false fun b => pyD b.2)).map (·.1)) := by
            rw [← sort_snd]
            exact rel_map fun b hb => b3 b (hperm.mem_iff.mp hb)
          have hlen : ((bs.mergeSort (PySem.W.dataLe false fun b => pyD b.2)).map (·.1)).length ≤ sizeLine := by
            rw [List.length_map, hperm.length_eq]; simpa using p2
          have hn : H (s.heap.objs.size + 1) = none := I.hok.fresh (Nat.le_succ _)
          obtain ⟨z2, x2, s2, r2⟩ := st.newLst hn rel2
          obtain ⟨ee, he⟩ := sortedAll_at s.heap its out.toArray
          exact ⟨.ref _, _, I.laid (t' := s.toks) (a := s.heap.objs.size + 1) (o := .lst ((bs.mergeSort (PySem.W.dataLe false fun b => pyD b.2)).map (·.1))) (fun b o e => sortedAll_old e) (Nat.le_succ _) ⟨hlen, out, ee, each_vals eo, he⟩, rfl, q _ _ _ x2 s2 r2⟩
      · cases e2
end
/-! ### sets of ints and texts -/
def kD : Key → D
  | .inl i => .int i
  | .inr x => .str x
def dK : D → Option Key
  | .int i => some (.inl i)
  | .str x => some (.inr x)
  | _ => none
def dKs : List D → Option (List Key)
  | [] => some []
  | d :: ds => (dK d).bind fun k => (dKs ds).map (k :: ·)
theorem dK_rel {g : Gx} {z : Fz} {d : D} {v : V} {u : Value} {k : Key} (e : dK d = some k) (r : RelD g z d v) (rv : RelV v u) : keyIs k u = true := by
  cases r with
  | int i => cases e; obtain ⟨t, rfl⟩ := rv; exact keyIs_int _ _
  | str i => cases e; obtain ⟨t, rfl⟩ := rv; exact keyIs_str _ _
  | _ => cases e
theorem dKs_rel {g : Gx} {z : Fz} : ∀ {ds : List D} {vs : List V} {us : List Value} {ks : List Key}, dKs ds = some ks → RelDs g z ds vs → Vals vs us → ks.length = us.length ∧ ∀ (i : Nat) (v : Value), us[i]? = some v → ∃ k, ks[i]? = some k ∧ keyIs k v = true
  | _, _, _, _, e, .nil, .nil => by cases e; exact ⟨rfl, fun i v h => by simp at h⟩
  | _, _, _, _, e, .cons r rs, .cons v vs => by
    simp only [dKs, Option.bind_eq_some_iff, Option.map_eq_some_iff] at e
    obtain ⟨k, e1, ks, e2, rfl⟩ := e
    obtain ⟨h1, h2⟩ := dKs_rel e2 rs vs
    refine ⟨by simp [h1], fun i w h => ?_⟩
    cases i with
    | zero => simp at h; subst h; exact ⟨k, rfl, dK_rel e1 r v⟩
    | succ i => simpa using h2 i w (by simpa using h)
/-- the set at p -/
def SetX (w : World) (p : Addr) (ks : List Key) : HO := .ext fun h => SetQ w h p ks
theorem setX_new {w : World} {P : Program} {H : Hp} {h : Heap} {a : Addr} {ks : List Key} (R : SetQ w h a ks) : ObjOk P w H h a (SetX w a ks) := by
  have ⟨o, _, _, _, ho, _⟩ := R
  exact ⟨R, ⟨o, ho⟩, fun h1 h2 p k => SetQ.at p k⟩
def seqOf (hc : Hc) : D → Option (List D)
  | .tup ds => some ds
  | d => hc.lst? d
/-- the members of set(x), each once -/
def setK (hc : Hc) (d : D) : Option (List Key) := (seqOf hc d).bind fun ds => if ds.length + 2 < scanBound then (dKs ds).map (addAll []) else none
section
variable {X : Cx} {g : Gx} {W : WX} {k : Nat}
theorem c_set (c : Ct X g W k) : CallR X (.type "set") (fun xs H Q => ∃ z hc d v ks, StR g z H hc ∧ xs = [v] ∧ RelD g z d v ∧ setK hc d = some ks ∧ ∀ p, H p = none → Q (.ref p) (upd H p (SetX X.w p ks))) := by
  intro pins s σ H xs us Q I r ⟨z, hc, d, v, ks, st, e, rd, ek, q⟩
  subst e
  obtain ⟨ds, e1, e2⟩ := Option.bind_eq_some_iff.mp ek
  split at e2
  · rename_i hb
    obtain ⟨vals, e3, rfl⟩ := Option.map_eq_some_iff.mp e2
    have hn : H s.heap.objs.size = none := I.hok.fresh (Nat.le_refl _)
    have fin : ∀ (h' : Heap) (tk : Nat), SetQ X.w h' s.heap.objs.size (addAll [] vals) → (∀ b o, b < s.heap.objs.size → s.heap.get? b = some o → h'.get? b = some o) → EP X pins σ Q (.ref s.heap.objs.size) { s with heap := h', toks := tk } := fun h' tk R k' =>
      ⟨.ref _, _, I.laid (t' := tk) (fun b o e => k' b o (Heap.lt_size e) e) (Nat.le_refl _) (setX_new R), rfl, q _ hn⟩
    have lists : ∀ (e1 : hc.lst? d = some ds), wpAny (model X.prog X.w) X.A (call (.type "set") us) (EP X pins σ Q) X.xe s := fun e1 => by
      obtain ⟨a, ys, rfl, hl, rl⟩ := st.list e1 rd
      rw [← c.hK] at hl
      obtain ⟨its, rv, pl, hz⟩ := I.list hl
      rw [Vals.ref1 r]
      obtain ⟨h1, h2⟩ := dKs_rel e3 rl rv
      have hsz : its.toArray.size = ds.length := by rw [List.size_toArray, ← rv.length, rl.length]
      exact set_list (vals := vals) (I.ok.hd c.calm) pl.isList (by rw [h1, List.size_toArray]) (fun i v h => h2 i v (by simpa using h)) (by rw [hsz]; omega) fin
    cases rd with
    | tup h1 q1 =>
      cases e1
      have h1' := SqT.mono st.sub h1
      rw [← c.hK] at h1'
      obtain ⟨its, rv, ⟨o, ho, hcl, n, hd⟩, _⟩ := I.tuple h1'
      rw [Vals.ref1 r]
      obtain ⟨h3, h2⟩ := dKs_rel e3 q1 rv
      have hsz : its.toArray.size = ds.length := by rw [List.size_toArray, ← rv.length, q1.length]
      exact set_tuple (vals := vals) (I.ok.hd c.calm) ⟨_, ho, hcl, n, hd⟩ (by rw [h3, List.size_toArray]) (fun i v h => h2 i v (by simpa using h)) (by rw [hsz]; omega) fin
    | lst h1 q1 => exact lists e1
    | kl h1 q1 => exact lists e1
    | loc h1 => exact lists e1
    | _ => cases e1
  · cases e2
/-- len of it -/
theorem c_lenset : CallR X (.builtin "len") (fun xs H Q => ∃ p ks, xs = [.ref p] ∧ H p = some (SetX X.w p ks) ∧ Q (.int ks.length) H) := by
  intro pins s σ H xs us Q I r ⟨p, ks, e, hp, q⟩
  subst e
  rw [Vals.ref1 r]
  obtain ⟨o, es, ep, t, ho, hex, hd, g, nd, hm, hb, hf, hr, hl⟩ := (show SetQ X.w s.heap p ks from (I.hok p _ hp).1)
  have hn : es.size = ks.length := by rw [← hm.length_eq, List.length_map, Array.length_toList]
  have hb2 : (es.size : Int) < 2 ^ 63 := by
    have : scanBound ≤ 2 ^ 62 := by decide
    omega
  exact call_len_set ho hex hd hf hb2 ⟨.int ks.length, H, I.tok _, ⟨_, by rw [hn]⟩, q⟩
end
end Bo

set_option Elab.async false
set_option linter.all false
set_option maxRecDepth 100000
set_option maxHeartbeats 4000000
set_option autoImplicit false
/-! Bo11: sorted(set(..)), len(set(..)) as one step each. -/
namespace Bo
open PySem PySem.Spec PyProof.Rows L2

def kP : Key → PyData
  | .inl i => .int i
  | .inr x => .str x
def vK : Key → V
  | .inl i => .int i
  | .inr x => .str x
def leK (a b : Key) : Bool := PySem.W.dataLe false kP a b
def sortK (ks : List Key) : List Key := ks.mergeSort (PySem.W.dataLe false kP)
def sameK (ks : List Key) : Bool := (ks.all fun k => k.isLeft) || ks.all fun k => k.isRight
theorem leK_anti {a b : Key} (h1 : PySem.W.dataLe false kP a b = true) (h2 : PySem.W.dataLe false kP b a = true) : a = b := by
  have h1' : (!lexLt itemOrd (PySem.W.keyToks (kP b)) (PySem.W.keyToks (kP a))) = true := h1
  have h2' : (!lexLt itemOrd (PySem.W.keyToks (kP a)) (PySem.W.keyToks (kP b))) = true := h2
  rw [Bool.not_eq_true'] at h1' h2'
  have e := lex_total (O := itemOrd) _ _ h2' h1'
  cases a with
  | inl i => cases b with
    | inl j => simpa [kP, PySem.W.keyToks] using e
    | inr x => simp [kP, PySem.W.keyToks] at e
  | inr x => cases b with
    | inl j => simp [kP, PySem.W.keyToks] at e
    | inr y =>
      have : x.cps.toList = y.cps.toList := by simpa [kP, PySem.W.keyToks] using e
      rw [PySem.W.str_of_cps this]
theorem sortK_sorted (ks : List Key) : (sortK ks).Pairwise fun a b => PySem.W.dataLe false kP a b = true := by
  have t := PySem.W.sortLe_total (listOrd itemOrd) false fun b : Key => PySem.W.keyToks (kP b)
  exact List.pairwise_mergeSort (fun a b c => t.trans a b c) (fun a b => (Bool.or_eq_true _ _).mpr (t.total a b)) ks
theorem sortK_perm {ks ls : List Key} (p : ks.Perm ls) : sortK ks = sortK ls :=
  List.Perm.eq_of_pairwise (fun a b _ _ h1 h2 => leK_anti h1 h2) (sortK_sorted ks) (sortK_sorted ls) (((List.mergeSort_perm ks _).trans p).trans (List.mergeSort_perm ls _).symm)
theorem kP_reads {h : Heap} {k : Key} {v : Value} (e : keyIs k v = true) : Reads h v (kP k) [] := by
  rcases keyIs_shape e with ⟨i, t, rfl, rfl⟩ | ⟨x, t, rfl, rfl⟩
  · exact .int i t
  · exact .str x t
theorem kP_depth (k : Key) : (kP k).depth ≤ 64 := by
  cases k <;> simp [kP, PyData.depth]
theorem sameK_ok {ks : List Key} (h : sameK ks = true) : PySem.W.AllAlike (ks.map kP) ∧ PySem.W.Sortable (ks.map kP) := by
  refine ⟨fun p hp q hq => ?_, .inr fun p hp => ?_⟩
  · obtain ⟨a, ha, rfl⟩ := List.mem_map.mp hp
    obtain ⟨b, hb, rfl⟩ := List.mem_map.mp hq
    rcases (Bool.or_eq_true _ _).mp h with h | h
    · have h1 := List.all_eq_true.mp h a ha
      have h2 := List.all_eq_true.mp h b hb
      clear h hp hq ha hb
      cases a <;> cases b <;> first | (simp at h1; done) | (simp at h2; done) | simp [kP, PySem.W.alike]
    · have h1 := List.all_eq_true.mp h a ha
      have h2 := List.all_eq_true.mp h b hb
      clear h hp hq ha hb
      cases a <;> cases b <;> first | (simp at h1; done) | (simp at h2; done) | simp [kP, PySem.W.alike]
  · obtain ⟨a, ha, rfl⟩ := List.mem_map.mp hp
    cases a <;> exact ⟨nofun, nofun⟩
theorem keys_each : ∀ {vs : List Value} (_ : ∀ v ∈ vs, ∃ k : Key, keyIs k v = true), PySem.W.EachIs (fun v k => keyIs k v = true) vs (vs.map fun v => kEl (0, v))
  | [], _ => .nil
  | v :: vs, h => by
    obtain ⟨k, hk⟩ := h v List.mem_cons_self
    exact .cons (show keyIs (kEl (0, v)) v = true by rw [kEl_of hk]; exact hk) (keys_each fun u hu => h u (List.mem_cons_of_mem _ hu))
theorem keys_vals : ∀ {vs : List Value} {ks : List Key}, PySem.W.EachIs (fun v k => keyIs k v = true) vs ks → Vals (ks.map vK) vs
  | _, _, .nil => .nil
  | _, _, .cons h t => .cons (by
      rcases keyIs_shape h with ⟨i, t, rfl, rfl⟩ | ⟨x, t, rfl, rfl⟩
      · exact ⟨t, rfl⟩
      · exact ⟨t, rfl⟩) (keys_vals t)
theorem keys_rel {g : Gx} {z : Fz} : ∀ (ks : List Key), RelDs g z (ks.map kD) (ks.map vK)
  | [] => .nil
  | .inl i :: ks => .cons (.int i) (keys_rel ks)
  | .inr x :: ks => .cons (.str x) (keys_rel ks)
section
variable {X : Cx} {g : Gx} {W : WX} {k : Nat}
theorem c_sortset (c : Ct X g W k) : CallR X (.builtin "sorted") (fun xs H Q => ∃ p ks, xs = [.ref p] ∧ H p = some (SetX X.w p ks) ∧ sameK ks = true ∧ ks.length ≤ sizeLine ∧ ∀ q, H q = none → Q (.ref q) (upd H q (.lst ((sortK ks).map vK)))) := by
  intro pins s σ H xs us Q I r ⟨p, ks, e, hp, hsame, hL, q⟩
  subst e
  rw [Vals.ref1 r]
  obtain ⟨o, es, ep, t, ho, hex, hd, g, nd, hm, hb, hf, hr, hl⟩ := (show SetQ X.w s.heap p ks from (I.hok p _ hp).1)
  refine Calls.call_function_entry kind_sorted plain_sorted entry_sorted (args_sorted1 _) ?_
  unfold Builtin.«sorted»
  refine wpAny_bind (m := checkCount "sorted" 1 1 _) (wpAny_pure ?_)
  refine wpAny_bind (collect_set (A := X.A.in1) (I.ok.hd c.calm) ⟨o, ho, hex.1, hd⟩ hf hb hr hl fun s1 vs k1 hz g1 o1 pm => ?_)
  have hks : ∀ v ∈ vs, ∃ k : Key, keyIs k v = true := fun v hv => by
    obtain ⟨e, he, q⟩ := List.mem_map.mp (pm.mem_iff.mp hv)
    obtain ⟨k, h1, _⟩ := g e he
    exact ⟨k, by rw [← q]; exact h1⟩
  have pk : (vs.map fun v => kEl (0, v)).Perm ks := by
    have q := pm.map fun v => kEl (0, v)
    rw [List.map_map] at q
    exact q.trans hm
  have hvl : (vs.map fun v => kEl (0, v)).length = ks.length := pk.length_eq
  have hvl' : vs.length = ks.length := by rw [← hvl, List.length_map]
  have hsame' : sameK (vs.map fun v => kEl (0, v)) = true := by
    unfold sameK at hsame ⊢
    rcases (Bool.or_eq_true _ _).mp hsame with h | h
    · exact (Bool.or_eq_true _ _).mpr (.inl (List.all_eq_true.mpr fun k hk => List.all_eq_true.mp h k (pk.mem_iff.mp hk)))
    · exact (Bool.or_eq_true _ _).mpr (.inr (List.all_eq_true.mpr fun k hk => List.all_eq_true.mp h k (pk.mem_iff.mp hk)))
  obtain ⟨al, so⟩ := sameK_ok hsame'
  refine wpAny_bind (wpAny_newList ?_ (by rw [hvl']; exact hL))
  have hoL : (s1.heap.push (seqObj "list" vs.toArray 0)).get? s1.heap.objs.size = some (seqObj "list" vs.toArray 0) := Heap.get?_push_size _ rfl
  have ea := keys_each hks
  refine wpAny_bind (wpAny_holding (PySem.W.list_sort_data (s := { s1 with heap := s1.heap.push (seqObj "list" vs.toArray 0) }) (R := fun v k => keyIs k v = true) (enc := kP) hoL ea (ea.mono fun v k hk => ⟨[], kP_reads hk, nofun⟩) al so (by rw [hvl]; exact hL) (fun b hb => ?_) fun out h1 h2 => ?_))
  · have := kP_depth b
    have := c.room.un
    show X.A.units + 1 + 1 + _ < _
    omega
  obtain ⟨cc, hcc⟩ := sortedHeap_at (vs := vs) (out := out.toArray) hoL
  have h2' : PySem.W.EachIs (fun v k => keyIs k v = true) out (sortK ks) := by rw [← sortK_perm pk]; exact h2
  have hlen : ((sortK ks).map vK).length ≤ sizeLine := by
    rw [List.length_map]; unfold sortK; rw [(List.mergeSort_perm ks _).length_eq]; exact hL
  have hn : H s1.heap.objs.size = none := I.hok.fresh hz
  have kk : ∀ b u, s.heap.get? b = some u → (sortedHeap (s1.heap.push (seqObj "list" vs.toArray 0)) s1.heap.objs.size vs out.toArray).get? b = some u := fun b u e => by
    have q := k1 b u e
    have hlt := Heap.lt_size q
    rw [sortedHeap_old (Nat.ne_of_lt hlt) (by rw [size_push']; exact Nat.lt_succ_of_lt hlt)]
    exact Heap.get?_push_of_some _ q
  refine wpAny_pure ⟨_, rfl, ?_⟩
  have J : Inv X pins σ (upd H s1.heap.objs.size (.lst ((sortK ks).map vK))) { s with heap := sortedHeap (s1.heap.push (seqObj "list" vs.toArray 0)) s1.heap.objs.size vs out.toArray, gens := s1.gens, drawn := s1.drawn, toks := s1.toks } :=
    I.call (ch := []) (Un.laid kk hz hn) (I.hok.laid kk hz ⟨hlen, out, cc, keys_vals h2', hcc⟩) (by rw [g1]; exact I.bare) (fun _ z => nomatch z)
  obtain ⟨sh, sg, sd, st, sos⟩ := s1
  cases s
  cases o1
  exact ⟨.ref _, _, J, rfl, q _ hn⟩
end

def lenSetD (hc : Hc) : List D → Option D
  | [d] => (setK hc d).map fun ks => .int ks.length
  | _ => none
def sortSetD (hc : Hc) : List D → Option D
  | [d] => (setK hc d).bind fun ks => if sameK ks && decide (ks.length ≤ sizeLine) then some (.lst ((sortK ks).map kD)) else none
  | _ => none
section
variable {X : Cx} {g : Gx} {W : WX} {k : Nat} {a : Expr} {fs : Sl → Hc → Res (List D)} {p p2 pos pos2 : Pos}
theorem e_lenset (c : Ct X g W k) (ha : PA X [a] (aI g W fs)) (hm1 : X.mg "len" = none) (hm2 : X.mg "set" = none) (hg1 : Gl X "len" := by rfl) (hg2 : Gl X "set" := by rfl)
    (he : starEach [a] X.env = [(false, eval a X.env)] := by rfl) (he2 : starEach [.Call (.Name "set" p2) [a] [] pos2] X.env = [(false, eval (.Call (.Name "set" p2) [a] [] pos2) X.env)] := by rfl) :
    PE X (.Call (.Name "len" p) [.Call (.Name "set" p2) [a] [] pos2] [] pos) (tI g W (blE lenSetD fs)) := by
  have h1 := pe_callTy (p := p2) (pos := pos2) (c_set c) hg2 hm2 (by decide +kernel) ha (by decide) (by decide) he rfl
  refine pe_imp (pe_callB (c_lenset (X := X)) hg1 hm1 (by decide +kernel) (pa_cons h1 pa_nil he2) (by decide) (by decide) he2 rfl) fun σ H Q ⟨z, sl, hc, hs, st, h⟩ => ?_
  refine aI.mono (OutE.thenA (f := fs) hs st h) fun vs H1 ⟨z1, ds, hc1, x1, hs1, st1, r1, o1⟩ => ?_
  obtain ⟨rr, er, hq⟩ := o1.lift
  cases r1 with
  | nil => cases er
  | cons r t => cases t with
    | cons _ _ => cases er
    | nil =>
      obtain ⟨ks, e1, rfl⟩ := Option.map_eq_some_iff.mp er
      refine ⟨z1, hc1, _, _, ks, st1, rfl, r, e1, fun p hp => ?_⟩
      obtain ⟨x2, st2⟩ := st1.alloc (o := SetX X.w p ks) hp
      exact ⟨p, ks, rfl, upd_same, hq _ _ _ x2 st2 (.int _)⟩
theorem e_sortset (c : Ct X g W k) (ha : PA X [a] (aI g W fs)) (hm1 : X.mg "sorted" = none) (hm2 : X.mg "set" = none) (hg1 : Gl X "sorted" := by rfl) (hg2 : Gl X "set" := by rfl)
    (he : starEach [a] X.env = [(false, eval a X.env)] := by rfl) (he2 : starEach [.Call (.Name "set" p2) [a] [] pos2] X.env = [(false, eval (.Call (.Name "set" p2) [a] [] pos2) X.env)] := by rfl) :
    PE X (.Call (.Name "sorted" p) [.Call (.Name "set" p2) [a] [] pos2] [] pos) (tI g W (blE sortSetD fs)) := by
  have h1 := pe_callTy (p := p2) (pos := pos2) (c_set c) hg2 hm2 (by decide +kernel) ha (by decide) (by decide) he rfl
  refine pe_imp (pe_callB (c_sortset c) hg1 hm1 (by decide +kernel) (pa_cons h1 pa_nil he2) (by decide) (by decide) he2 rfl) fun σ H Q ⟨z, sl, hc, hs, st, h⟩ => ?_
  refine aI.mono (OutE.thenA (f := fs) hs st h) fun vs H1 ⟨z1, ds, hc1, x1, hs1, st1, r1, o1⟩ => ?_
  obtain ⟨rr, er, hq⟩ := o1.lift
  cases r1 with
  | nil => cases er
  | cons r t => cases t with
    | cons _ _ => cases er
    | nil =>
      obtain ⟨ks, e1, e2⟩ := Option.bind_eq_some_iff.mp er
      split at e2
      · rename_i hk
        cases e2
        simp only [Bool.and_eq_true, decide_eq_true_eq] at hk
        refine ⟨z1, hc1, _, _, ks, st1, rfl, r, e1, fun p hp => ?_⟩
        obtain ⟨x2, st2⟩ := st1.alloc (o := SetX X.w p ks) hp
        refine ⟨p, ks, rfl, upd_same, hk.1, hk.2, fun q hq' => ?_⟩
        obtain ⟨z3, x3, st3, r3⟩ := st2.newLst hq' (keys_rel (sortK ks))
        exact hq _ _ _ (x2.trans x3) st3 r3
      · cases e2
end
end Bo

set_option Elab.async false
set_option linter.all false
set_option maxRecDepth 100000
set_option maxHeartbeats 4000000
set_option autoImplicit false
/-! Bo12: join, displays of dicts, -x. -/
namespace Bo
open PySem PySem.Spec PyProof.Rows L2

/-! ### join -/
def strsOf : List D → Option (List Str)
  | [] => some []
  | .str x :: ds => (strsOf ds).map (x :: ·)
  | _ => none
theorem strsOf_rel {g : Gx} {z : Fz} : ∀ {ds : List D} {vs : List V} {ys : List Str}, strsOf ds = some ys → RelDs g z ds vs → vs = ys.map V.str
  | _, _, _, e, .nil => by cases e; rfl
  | _, _, _, e, .cons r t => by
    cases r with
    | str x =>
      obtain ⟨ys, e1, rfl⟩ := Option.map_eq_some_iff.mp e
      rw [strsOf_rel e1 t]; rfl
    | _ => cases e
def joinD (hc : Hc) (a : Str) (d : D) : Option D := (seqOf hc d).bind fun ds => (strsOf ds).bind fun ys => if (ys.map (·.length)).sum + ys.length * a.length ≤ 16777216 then some (.str (Txt.join a ys)) else none
def joinE (fo fe : Sl → Hc → Res D) : Sl → Hc → Res D := fun sl hc => (fo sl hc).bind fun d hc1 => match d with
  | .str a => (fe sl hc1).bind fun e hc2 => lift (joinD hc2 a e) hc2
  | _ => .bad
section
variable {X : Cx} {g : Gx} {W : WX} {k : Nat} {o e : Expr} {fo fe : Sl → Hc → Res D} {apos pos : Pos}
theorem e_join (c : Ct X g W k) (ho : PE X o (tI g W fo)) (he : PE X e (tI g W fe)) (hs : starEach [e] X.env = [(false, eval e X.env)] := by rfl) (hbase : attributeBase o "join" X.env (eval o X.env) = eval o X.env := by rfl) (hline : (apos.endLine == pos.line) = true := by rfl) :
    PE X (.Call (.Attribute o "join" apos) [e] [] pos) (tI g W (joinE fo fe)) := by
  refine pe_imp (pe_join ho he hs hbase hline) fun σ H Q ⟨z, sl, hc, hs, st, h⟩ => ?_
  refine tI.mono (OutE.thenE (f := fo) hs st h) fun v H1 ⟨z1, d1, hc1, x1, hs1, st1, r1, o1⟩ => ?_
  cases r1 with
  | str a =>
    refine ⟨⟨a, rfl⟩, tI.mono (OutE.thenE (f := fe) hs1 st1 o1) fun v H2 ⟨z2, d2, hc2, x2, hs2, st2, r2, o2⟩ => ?_⟩
    obtain ⟨rr, er, hq⟩ := o2.lift
    obtain ⟨ds, e1, e2⟩ := Option.bind_eq_some_iff.mp er
    obtain ⟨ys, e3, e4⟩ := Option.bind_eq_some_iff.mp e2
    split at e4
    · rename_i hz
      cases e4
      have lists : ∀ (e1 : hc2.lst? d2 = some ds), ∃ p, v = .ref p ∧ (SqL X.K H2 p (ys.map V.str) ∨ SqT X.K H2 p (ys.map V.str)) := fun e1 => by
        obtain ⟨p, xs, rfl, hl, rl⟩ := st2.list e1 r2
        have := strsOf_rel e3 rl
        subst this
        exact ⟨p, rfl, .inl (by rw [c.hK]; exact hl)⟩
      have tot : ∃ p, v = .ref p ∧ (SqL X.K H2 p (ys.map V.str) ∨ SqT X.K H2 p (ys.map V.str)) := by
        cases r2 with
        | tup h1 q1 =>
          cases e1
          have := strsOf_rel e3 q1
          subst this
          exact ⟨_, rfl, .inr (by rw [c.hK]; exact SqT.mono st2.sub h1)⟩
        | lst h1 q1 => exact lists e1
        | kl h1 q1 => exact lists e1
        | loc h1 => exact lists e1
        | _ => cases e1
      obtain ⟨p, rfl, hp⟩ := tot
      exact ⟨a, p, ys, rfl, rfl, hp, hz, hq _ _ _ (.refl _ _) st2 (.str _)⟩
    · cases e4
  | _ => exact o1.elim
/-! ### -x -/
def negD (_ : Hc) : D → Option D
  | .int i => some (.int (-i))
  | _ => none
theorem e_neg {a : Expr} {fa : Sl → Hc → Res D} (ha : PE X a (tI g W fa)) : PE X (.UnaryOp .USub a pos) (tI g W (unE negD fa)) := by
  refine pe_imp (pe_un un_neg ha) fun σ H Q ⟨z, sl, hc, hs, st, h⟩ => ?_
  refine tI.mono (OutE.thenE (f := fa) hs st h) fun v H1 ⟨z1, d1, hc1, x1, hs1, st1, r1, o1⟩ => ?_
  obtain ⟨rr, er, hq⟩ := o1.lift
  cases r1 with
  | int i => cases er; exact ⟨i, rfl, hq _ _ _ (.refl _ _) st1 (.int _)⟩
  | _ => cases er
end
/-! ### displays of dicts, their keys written out and all different -/
def dctE (ks : List Key) (fs : Sl → Hc → Res (List D)) : Sl → Hc → Res D := fun sl hc => (fs sl hc).bind fun ds hc1 => if ds.length = ks.length then .ok (.dct ks ds) hc1 else .bad
def DP (X : Cx) (g : Gx) (W : WX) (pos : Pos) (keys : List (Option Expr)) (values : List Expr) (ks : List Key) (fs : Sl → Hc → Res (List D)) : Prop :=
  ∃ trs, PPs X pos keys values trs ∧ ∀ σ H Q, aI g W fs σ H (fun vs H1 => vs.length = ks.length → Q ((ks.zip vs).map (fun kv => (kV kv.1, kv.2))) H1) → tPairs trs σ H Q
section
variable {X : Cx} {g : Gx} {W : WX} {k : Nat} {pos : Pos}
theorem dp_nil : DP X g W pos [] [] [] nA := ⟨[], pps_nil, fun σ H Q ⟨z, sl, hc, hs, st, h⟩ => h z H [] (.refl z H) st .nil rfl⟩
theorem dp_cons {x : Str} {n : Nat} {p : Pos} {v : Expr} {fv : Sl → Hc → Res D} {keys : List (Option Expr)} {values : List Expr} {ks : List Key} {fs : Sl → Hc → Res (List D)} (hv : PE X v (tI g W fv)) (h : DP X g W pos keys values ks fs) :
    DP X g W pos (some (.Constant (.str x) n p) :: keys) (v :: values) (.inr x :: ks) (kA fv fs) := by
  obtain ⟨trs, h1, h2⟩ := h
  refine ⟨_, pps_cons pe_str hv h1, fun σ H Q ⟨z, sl, hc, hs, st, h⟩ => ?_⟩
  refine tI.mono (OutA.thenE (f := fv) hs st h) fun v H1 ⟨z1, d1, hc1, x1, hs1, st1, r1, o1⟩ => ?_
  refine h2 _ _ _ (aI.mono (OutA.thenA (f := fs) hs1 st1 o1) fun ws H2 ⟨z2, d2, hc2, x2, hs2, st2, r2, o2⟩ => ?_)
  intro hl
  exact o2 z2 H2 _ (.refl z2 H2) st2 (.cons (r1.mono x2.le) r2) (by simp [hl])
theorem mergeK_id : ∀ (kvs acc : List (Key × V)), ((acc ++ kvs).map (·.1)).Nodup → mergeK acc kvs = acc ++ kvs
  | [], acc, _ => by simp [mergeK]
  | (k, v) :: kvs, acc, h => by
    have hput : putK acc k v = acc ++ [(k, v)] := by
      have hn : ∀ kv ∈ acc, kv.1 ≠ k := fun kv hkv e => by
        rw [List.map_append, List.nodup_append] at h
        exact h.2.2 kv.1 (List.mem_map.mpr ⟨kv, hkv, rfl⟩) k (by simp) e
      unfold putK
      rw [if_neg]
      intro q
      obtain ⟨kv, h1, h2⟩ := List.any_eq_true.mp q
      exact hn kv h1 (of_decide_eq_true h2)
    show mergeK (putK acc k v) kvs = _
    rw [hput, mergeK_id kvs (acc ++ [(k, v)]) (by simpa using h)]
    simp
theorem e_dct {keys : List (Option Expr)} {values : List Expr} {ks : List Key} {fs : Sl → Hc → Res (List D)} (h : DP X g W pos keys values ks fs) (hall : keys.all (·.isSome) = true := by rfl) (hl : keys.length = values.length := by rfl) (h0 : keys ≠ [] := by nofun)
    (h15 : keys.length ≤ 15 := by decide) (hk : ks.length ≤ 15 := by decide) (hn : ks.Nodup := by decide) : PE X (.Dict keys values pos) (tI g W (dctE ks fs)) := by
  obtain ⟨trs, h1, h2⟩ := h
  refine pe_imp (pe_disp h1 hall hl h0 h15) fun σ H Q ⟨z, sl, hc, hs, st, h⟩ => fun p hp => ?_
  have ap : Apart z p := StR.apart (H := H) (p := p) (by rw [del_none hp]; exact st)
  have st0 : StR g z (upd H p (.dK [])) hc := StR.fill (p := p) (by rw [del_of_upd, del_none hp]; exact st)
  refine h2 _ _ _ ?_
  have key : ∀ ds hc1, OutE g W z H σ (if ds.length = ks.length then .ok (.dct ks ds) hc1 else .bad) Q → ∀ z' H' vs, Ext z (upd H p (.dK [])) z' H' → StR g z' H' hc1 → RelDs g z' ds vs →
      vs.length = ks.length → H' p = some (.dK []) ∧ ∃ kvs : List (Key × V), (ks.zip vs).map (fun kv => (kV kv.1, kv.2)) = kvs.map (fun kv => (kV kv.1, kv.2)) ∧ kvs.length ≤ 15 ∧ Q (.ref p) (upd H' p (.dK (mergeK [] kvs))) := fun ds hc1 o z' H' vs x st' r hlen => by
    obtain ⟨x1, ap1, e1⟩ := x.hole (upd_same) ap
    rw [if_pos (by rw [r.length]; exact hlen)] at o
    rw [del_of_upd, del_none hp] at x1
    have st1 := st'.hole ap1
    obtain ⟨x2, st2⟩ := st1.alloc (o := .dK (ks.zip vs)) del_same
    rw [del_upd] at x2 st2
    refine ⟨e1, ks.zip vs, rfl, by rw [List.length_zip]; omega, ?_⟩
    have em : mergeK [] (ks.zip vs) = ks.zip vs := by
      rw [mergeK_id _ [] (by rw [List.nil_append, List.map_fst_zip (by omega)]; exact hn)]; rfl
    rw [em]
    exact o _ _ _ (x1.trans x2) st2 (.dct (show upd z'.F p _ p = _ from upd_same) (by rw [r.length]; exact hlen.symm) (r.mono x2.le))
  refine ⟨z, sl, hc, hs, st0, ?_⟩
  unfold dctE at h
  cases e : fs sl hc with
  | ok ds hc1 =>
    rw [e] at h
    exact fun z' H' vs x st' r => key ds hc1 h z' H' vs x st' r
  | exc c hc1 =>
    rw [e] at h
    intro z' H' x st'
    exact h z' H' ⟨x.le, fun a u h1 k => x.keep a u (by rw [upd_ne fun q => by subst q; rw [hp] at h1; cases h1]; exact h1) k, fun a u h1 => x.alive a u (by rw [upd_ne fun q => by subst q; rw [hp] at h1; cases h1]; exact h1), fun a u h1 k => by
      rcases x.fNew a u h1 k with q | q
      · by_cases e : a = p
        · subst e; exact .inl hp
        · rw [upd_ne e] at q; exact .inl q
      · exact .inr q, fun n a h1 k => by
      have q := x.rNew n a h1 k
      by_cases e : a = p
      · subst e; exact hp
      · rw [upd_ne e] at q; exact q⟩ st'
  | bad => rw [e] at h; exact h.elim
theorem e_dct0 : PE X (.Dict [] [] pos) (tI g W fun _ hc => .ok (.dct [] []) hc) := by
  refine pe_imp pe_dnewK fun σ H Q ⟨z, sl, hc, hs, st, h⟩ => fun p hp => ?_
  obtain ⟨x2, st2⟩ := st.alloc (o := .dK []) hp
  exact h _ _ _ x2 st2 (.dct (show upd z.F p _ p = some (.dK ([].zip [])) from upd_same) rfl .nil)
end
end Bo

set_option Elab.async false
set_option linter.all false
set_option maxRecDepth 100000
set_option maxHeartbeats 4000000
set_option autoImplicit false
/-! Bo13: the law's end: its def is called with the script, which is read as D.kl. -/
namespace Bo
open PySem PySem.Spec PyProof.Rows L2

/-- the empty small heap -/
def hc0 : Hc := ⟨0, []⟩
def scr (ns : List Int) : D := .kl (ns.map D.int)
theorem ints_rel {g : Gx} {z : Fz} : ∀ (ns : List Int), RelDs g z (ns.map D.int) (ns.map V.int)
  | [] => .nil
  | n :: ns => .cons (.int n) (ints_rel ns)
section
variable {P : Program} {w : World} {K : PySem.W.Frag} {mg mb : Str → Option Value} {k : Nat} {fa a : Addr} {fd : FuncData} {x : Str} {cl : List D → Hc → Res D} {s : Shared} {us : List Value} {ns : List Int} {g : Gx}
theorem law_from (G : Hp) (hO : Only G) (KX : K.In s.heap) (hns : s.heap.Ns mainGlobals mg) (hb : s.heap.Ns builtinsNs mb) (hbb : ∀ x : Str, x ≠ "__name__" → mb x = bootBuiltins x) (hlim : s.heap.NoLimit) (hg : s.gens = #[])
    (ha : s.heap.get? a = some { cls := .type "list", data := .seq us.toArray }) (hgK : K = g.K) (hr : Room k callerA) (hS : SqL K G a (ns.map V.int)) (hok : HOk P w G s.heap) (hA : ∀ b, G b ≠ none → b = a) (hK : G a ≠ none → K.lookup a = none)
    (F : ∀ base : Heap, K.In base → base.Ns mainGlobals mg → FnI P w K mg base g k fa fd [x] cl) (hbind : ∀ (s : Shared) (u : Value), BindsTo s fd ⟨[u], []⟩ [(x, u)])
    (hcl : ∃ h, cl [scr ns] hc0 = .ok (.bl true) h) :
    codeAny (model P w) callerA (.call (.ref fa) ⟨[.ref a], []⟩) (fun r t => r = .ok (.ret (.bool true)) ∧ OldK s.heap t.heap ∧ t.os = s.os ∧ AllBare t.gens) s := by
  have free : ∀ {b : Addr} {o : Obj}, s.heap.get? b = some o → (∀ it, o.data ≠ .seq it) → G b = none := fun {b o} e d => by
    cases q : G b with
    | none => rfl
    | some u =>
      have e' : b = a := hA b (by rw [q]; simp)
      subst e'
      rw [ha] at e
      cases e
      exact absurd rfl (d _)
  have nsG : ∀ {b : Addr} {m : Str → Option Value}, s.heap.Ns b m → (hidT s.heap G).Ns b m := fun {b m} ⟨o, es, ep, e, d, r⟩ =>
    ⟨o, es, ep, hidT_get e (free e fun it q => by rw [d] at q; cases q), d, r⟩
  have kG : K.In (hidT s.heap G) := fun b o e => hidT_get (KX b o e) (by
    cases q : G b with
    | none => rfl
    | some u =>
      have e' : b = a := hA b (by rw [q]; simp)
      subst e'
      rw [hK (by rw [q]; simp)] at e
      cases e)
  have md : Mod K mg (hidT s.heap G) := ⟨kG, nsG hns, ⟨mb, nsG hb, hbb⟩, let ⟨mc, h1, h2⟩ := hlim; ⟨mc, nsG h1, h2⟩⟩
  have ev : Env0 P w K mg (hidT s.heap G) callerA [] s G :=
    ⟨rfl, md, fun b o e => of_hidT e, Nat.le_of_eq (hidT_size _ _), trivial, fun b q => absurd (show b ∈ ([] : List Addr) from q) (by simp), hok, .of_eq hg⟩
  have st : StR g ⟨G, fun _ => none⟩ G hc0 := ⟨fun _ _ e => e, fun _ _ _ e => (nomatch e), fun _ _ e => (nomatch e), fun _ _ => rfl, fun _ _ e => (by cases e)⟩
  have rd : RelDs g ⟨G, fun _ => none⟩ [scr ns] [V.ref a] := .cons (.kl (by rw [← hgK]; exact hS) (ints_rel ns)) .nil
  obtain ⟨hc1, ec⟩ := hcl
  have out : OutC g ⟨G, fun _ => none⟩ G (cl [scr ns] hc0) (fun v _ => v = .bl true) (fun _ _ _ => False) := by
    rw [ec]
    intro z' H' v _ _ r
    cases r
    rfl
  refine codeAny_mono ((F _ kG (nsG hns)).run callerA [] s G ⟨[.ref a], []⟩ [.ref a] [.ref a] _ hc0 [scr ns] _ _ hr rfl ev (hbind s (.ref a)) (.cons rfl .nil) st rd out) fun r t h => ?_
  cases r with
  | error e =>
    obtain ⟨_, _, _, _, _, _, _, _, _, _, _, _, f⟩ := h
    exact f.elim
  | ok fl =>
    cases fl with
    | next => exact False.elim h
    | brk => exact False.elim h
    | cont => exact False.elim h
    | ret u =>
      obtain ⟨v, H', os, bare, un, hok', r', q⟩ := h
      have q' : v = .bl true := q
      subst q'
      obtain rfl : u = Value.bool true := r'
      refine ⟨rfl, OldK.of_keep fun b o e => ?_, os, bare⟩
      cases q : G b with
      | none => exact un.keep b o e q (by intro z; exact absurd (show b ∈ ([] : List Addr) from z) (by simp)) (by simp)
      | some u =>
        rcases hO b with z | ⟨ob, xs, z⟩
        · rw [q] at z
          cases z
        · obtain ⟨e1, _⟩ := hok b _ z
          obtain ⟨e2, _⟩ := hok' b _ (un.frzs b ob _ z)
          rw [e] at e1
          cases e1
          exact e2
theorem law_end (KX : K.In s.heap) (hns : s.heap.Ns mainGlobals mg) (hb : s.heap.Ns builtinsNs mb) (hbb : ∀ x : Str, x ≠ "__name__" → mb x = bootBuiltins x) (hlim : s.heap.NoLimit) (hg : s.gens = #[])
    (ha : s.heap.get? a = some { cls := .type "list", data := .seq us.toArray }) (hi : IntsAre us ns) (hl : ns.length ≤ sizeLine) (hgK : K = g.K) (hr : Room k callerA)
    (F : ∀ base : Heap, K.In base → base.Ns mainGlobals mg → FnI P w K mg base g k fa fd [x] cl) (hbind : ∀ (s : Shared) (u : Value), BindsTo s fd ⟨[u], []⟩ [(x, u)])
    (hcl : ∃ h, cl [scr ns] hc0 = .ok (.bl true) h) :
    codeAny (model P w) callerA (.call (.ref fa) ⟨[.ref a], []⟩) (fun r t => r = .ok (.ret (.bool true)) ∧ OldK s.heap t.heap ∧ t.os = s.os ∧ AllBare t.gens) s := by
  have rv := vals_ints hi
  have hlen := hi.length
  cases hk : K.lookup a with
  | some o =>
    have e := KX a o hk
    rw [ha] at e
    cases e
    refine law_from (ns := ns) (fun _ => none) (fun _ => .inl rfl) KX hns hb hbb hlim hg ha hgK hr (.inr ⟨_, us.toArray, _, hk, rfl, rfl, rfl, ?_, by simpa using rv⟩) (fun b u z => nomatch z) (fun b z => absurd rfl z) (fun z => absurd rfl z) F hbind hcl
    rw [List.size_toArray, hlen]
    exact hl
  | none =>
    obtain ⟨G, hG⟩ : ∃ G : Hp, G = fun b => if b = a then some (.frz { cls := .type "list", data := .seq us.toArray } (.lst (ns.map V.int))) else none := ⟨_, rfl⟩
    have g1 : G a = some (.frz { cls := .type "list", data := .seq us.toArray } (.lst (ns.map V.int))) := by rw [hG]; exact if_pos rfl
    have g2 : ∀ b, b ≠ a → G b = none := fun b h => by rw [hG]; exact if_neg h
    refine law_from (ns := ns) G (fun b => ?_) KX hns hb hbb hlim hg ha hgK hr (.inl (.inr ⟨_, g1⟩)) (fun b u z => ?_) (fun b z => ?_) (fun _ => hk) F hbind hcl
    · by_cases e : b = a
      · subst e; exact .inr ⟨_, _, g1⟩
      · exact .inl (g2 b e)
    · by_cases e : b = a
      · subst e
        rw [g1] at z
        cases z
        exact ⟨ha, by rw [List.length_map]; exact hl, us, _, rv, ha⟩
      · rw [g2 b e] at z
        cases z
    · by_cases e : b = a
      · exact e
      · exact absurd (g2 b e) z
end
/-- a law: F gives the written part, the function object, the promise over every base -/
theorem walk_I {l : PySem.W.OpenLaw} {n k : Nat} {q : Program} {loose : List Str} {XP : (Str → Option Value) → Heap → Prop} {YP : World → Heap → Prop} {d : DefRec} {x : Str} {cl : List D → Hc → Res D}
    (hn : l.most = some n) (hn2 : n ≤ sizeLine) (hdf : d.params.defaults = []) (hr : Room k callerA)
    (F : ∀ (w : World) (mg : Str → Option Value) (fa : Addr) (h : Heap), YP w h → h.Ns mainGlobals mg → mg d.name = some (.ref fa) →
      ∃ (g : Gx) (fd : FuncData), g.K.In h ∧ (∀ (s : Shared) (u : Value), BindsTo s fd ⟨[u], []⟩ [(x, u)]) ∧ ∀ base : Heap, g.K.In base → base.Ns mainGlobals mg → FnI l.prog w g.K mg base g k fa fd [x] cl)
    (hcl : ∀ ns : List Int, ns.length ≤ n → (∀ i ∈ ns, Builtin.Int.intBits i ≤ 1048576) → ∃ h, cl [scr ns] hc0 = .ok (.bl true) h) :
    PySem.W.WalkO q loose XP YP l.row.toRowW d [] (fun f vs => PySem.call f vs) := by
  refine Att.attach_callB hn hdf fun w s₀ s₁ mg mb fa o pm cd doc a vs ns G Y ho hd hcd hmg hobj hints hlen hbits hg => ?_
  obtain ⟨g, fd, KX, hb, hF⟩ := F w mg fa _ Y G.T.g hmg
  exact law_end KX G.T.g G.T.b G.T.builtins G.T.nolimit hg hobj hints (Nat.le_trans hlen hn2) rfl hr hF hb (hcl ns hlen hbits)
end Bo

set_option Elab.async false
set_option linter.all false
set_option maxRecDepth 100000
set_option maxHeartbeats 4000000
set_option autoImplicit false
/-! Bo14: what a translated text leans on: any iterable, levels, the head's facts. -/
namespace Bo
open PySem PySem.Spec PyProof.Rows L2

/-! ### any sequence is walked -/
def itA (hc : Hc) (d : D) : Option (List D) := match d with
  | .lst ds => some ds
  | .tup ds => some ds
  | .str x => itS hc (.str x)
  | _ => none
section
variable {X : Cx} {g : Gx} {W : WX} {kk : Nat} {tg e : Expr} {fa : Sl → Hc → Res D}
theorem i_any (c : Ct X g W kk) (ha : PE X e (tI g W fa)) : PI X tg e (iI g W (itE itA fa)) := by
  refine ⟨fun pins s σ H R I ⟨z, sl, hc, hs, st, h⟩ => ?_⟩
  have hit : ∀ (k : Hc → D → Option (List D)), itE k fa sl hc = itE itA fa sl hc → iI g W (itE k fa) σ H R := fun k e => ⟨z, sl, hc, hs, st, by rw [e]; exact h⟩
  cases e1 : fa sl hc with
  | ok d hc1 =>
    cases d with
    | lst ds => exact (i_lst ha).run pins s σ H R I (hit itL (by unfold itE; rw [e1]; rfl))
    | tup ds => exact (i_tup c ha).run pins s σ H R I (hit itT (by unfold itE; rw [e1]; rfl))
    | str x => exact (i_str ha).run pins s σ H R I (hit itS (by unfold itE; rw [e1]; rfl))
    | _ => exact (by unfold itE at h; rw [e1] at h; exact h.elim)
  | exc cc hc1 => exact (i_lst ha).run pins s σ H R I (hit itL (by unfold itE; rw [e1]; rfl))
  | bad => exact (by unfold itE at h; rw [e1] at h; exact h.elim)
end
/-! ### levels -/
section
variable {P : Program} {w : World} {K : PySem.W.Frag} {mg : Str → Option Value} {base : Heap} {g : Gx} {j k : Nat} {x : Str} {cl : List D → Hc → Res D}
theorem FnI.mono {f : Addr} {fd : FuncData} {ps : List Str} (F : FnI P w K mg base g j f fd ps cl) (h : j ≤ k) : FnI P w K mg base g k f fd ps cl :=
  ⟨F.len, fun A outer s H args us vs z hc ds Q E hr => F.run A outer s H args us vs z hc ds Q E (hr.mono h)⟩
theorem FnT.mono (F : FnT P w K mg base g j x cl) (h : j ≤ k) : FnT P w K mg base g k x cl := by
  obtain ⟨f, fd, ps, h1, h2⟩ := F.ex
  exact ⟨f, fd, ps, h1.mono h, h2⟩
/-- a def of the module's top -/
def TopD (K : PySem.W.Frag) (mg : Str → Option Value) (x : Str) (s : Stmt) : Prop := ∃ f fd, FunD K x x (defArgs s) (defBody s) (defScope s) [] [] f fd ∧ mg x = some (.ref f)
theorem FnT.of {N ps : List Str} {s : Stmt} {fb : Sl → Hc → RS} (F : TopD K mg x s) (S : FnScope N ps (defScope s)) (hgK : K = g.K)
    (hbn : ∀ (kV doc pm : Value) (an : Option Addr) (cdv ct : Value) (us : List Value), us.length = ps.length → bindArgs (PySem.W.fnOf x x (defArgs s) (defBody s) (defScope s) .none kV doc pm an cdv ct) ⟨us, []⟩ = pure (ps.zip us))
    (hb : ∀ (f : Addr) (cdv : Value) (A : Around) (outer : List Env) (sh : Shared) (H : Hp) (E : XK), Ct (cxB P w K mg base N x (defScope s) f cdv A outer sh H E) g (fun cls d _ H => E cls d H) k → PassesOwn (model P w) (cxB P w K mg base N x (defScope s) f cdv A outer sh H E).A (cxB P w K mg base N x (defScope s) f cdv A outer sh H E).env (cxB P w K mg base N x (defScope s) f cdv A outer sh H E).xe →
      PSs (cxB P w K mg base N x (defScope s) f cdv A outer sh H E) (defBody s) (sI g (fun cls d _ H => E cls d H) fb)) :
    FnT P w K mg base g (k + 1) x (fnR ps.length N.length fb) := by
  obtain ⟨f, fd, F, hm⟩ := F
  exact ⟨f, fd, ps, fn_body F S hgK (hb f), F.bindsN hbn, hm, F.kp⟩
end
/-! ### the head's facts, with more of one's own -/
abbrev AlX : Type := He.AlD × Bool
def obsX (fa : List He.Fa) (fn : List He.DefD) (ex : List (PySem.W.Frag → Bool)) (K : PySem.W.Frag) : AlX := (He.obsD fa fn K, ex.all fun f => f K)
def valX (fn : List He.DefD) : AlX := (He.valD fn, true)
def SaysX (fa : List He.Fa) (fn : List He.DefD) (ex : List (PySem.W.Frag → Bool)) (K : PySem.W.Frag) : Prop := obsX fa fn ex K = valX fn
def obsXG (n : Nat) (fa : List He.Fa) (fn : List He.DefD) (ex : List (PySem.W.Frag → Bool)) (g : Addr → Option Obj) : AlX := obsX fa fn ex (He.frG g (He.asD g n))
def hookX (n : Nat) (fa : List He.Fa) (fn : List He.DefD) (ex : List (PySem.W.Frag → Bool)) : PySem.W.Hook where
  α := AlX
  obs := fun s => obsXG n fa fn ex s.heap.get?
  val := fun _ => valX fn
  says := fun _ h => ∃ K : PySem.W.Frag, K.In h ∧ SaysX fa fn ex K
  of := fun _ _ e => ⟨_, He.frG_in, e⟩
  keeps := fun _ _ _ ⟨K, hK, c⟩ k => ⟨K, PySem.W.Frag.In.keeps hK k, c⟩
theorem obsXG_eq {n : Nat} {fa : List He.Fa} {fn : List He.DefD} {ex : List (PySem.W.Frag → Bool)} {g : Addr → Option Obj} {s : Shared} (h : ∀ a, g a = s.heap.get? a) : obsXG n fa fn ex g = (hookX n fa fn ex).obs s := by
  have e : g = s.heap.get? := funext h
  subst e
  rfl
section
variable {fa : List He.Fa} {fn : List He.DefD} {ex : List (PySem.W.Frag → Bool)} {K : PySem.W.Frag}
theorem SaysX.d (c : SaysX fa fn ex K) : He.SaysD fa fn K := congrArg (fun z : AlX => z.1) c
theorem SaysX.more (c : SaysX fa fn ex K) (i : Nat) {f : PySem.W.Frag → Bool} (h : ex[i]? = some f := by rfl) : f K = true :=
  List.all_eq_true.mp (show (ex.all fun f => f K) = true from congrArg (fun z : AlX => z.2) c) f (List.mem_of_getElem? h)
end
theorem dIsRel {g : Gx} {z : Fz} : ∀ (xs : List Str), RelDs g z (xs.map D.str) (xs.map V.str)
  | [] => .nil
  | x :: xs => .cons (.str x) (dIsRel xs)
/-- a constant of the top -/
def TopI (mg : Str → Option Value) (x : Str) (i : Int) : Prop := ∃ t, mg x = some (.int i t)
def TopS (mg : Str → Option Value) (x y : Str) : Prop := ∃ t, mg x = some (.str y t)
/-- a tuple of texts of the top -/
def TopTS (K : PySem.W.Frag) (mg : Str → Option Value) (x : Str) (ys : List Str) : Prop := ∃ a, mg x = some (.ref a) ∧ ∀ H, SqT K H a (ys.map V.str)
section
variable {X : Cx} {g : Gx} {W : WX} {kk : Nat} {x : Str} {pos : Pos}
theorem e_gi {i : Int} (h : TopI X.mg x i) (hg : Gl X x := by rfl) (hd : (x == ("__debug__" : Str)) = false := by decide) : PE X (.Name x pos) (tI g W (cE (.int i))) := by
  obtain ⟨t, h⟩ := h
  exact e_gcs (v := .int i) h ⟨t, rfl⟩ (fun _ => .int i) hg hd
theorem e_gs {y : Str} (h : TopS X.mg x y) (hg : Gl X x := by rfl) (hd : (x == ("__debug__" : Str)) = false := by decide) : PE X (.Name x pos) (tI g W (cE (.str y))) := by
  obtain ⟨t, h⟩ := h
  exact e_gcs (v := .str y) h ⟨t, rfl⟩ (fun _ => .str y) hg hd
theorem e_gt {ys : List Str} (c : Ct X g W kk) (h : TopTS X.K X.mg x ys) (hg : Gl X x := by rfl) (hd : (x == ("__debug__" : Str)) = false := by decide) : PE X (.Name x pos) (tI g W (cE (.tup (ys.map D.str)))) := by
  obtain ⟨a, h, q⟩ := h
  exact e_gcs (v := .ref a) h rfl (fun z => .tup (by rw [← c.hK]; exact q z.F) (dIsRel ys)) hg hd
end
def reprA (hc : Hc) (ds : List D) : Option D := match ds with
  | [d] => reprD hc d
  | _ => none
theorem b_reprA {X : Cx} {g : Gx} {W : WX} {k : Nat} (c : Ct X g W k) : CallR X (.builtin "repr") (rA g reprA) := by
  intro pins s σ H xs us Q I r h
  refine b_repr c pins s σ H xs us Q I r ?_
  obtain ⟨z, hc, ds, rr, st, rd, er, q⟩ := h
  refine ⟨z, hc, ds, rr, st, rd, ?_, q⟩
  rw [← er]
  unfold reprA
  cases ds with
  | nil => rfl
  | cons a l => cases l <;> rfl
theorem tupS_ok {K : PySem.W.Frag} {mg : Str → Option Value} {h : Heap} {x : Str} {ys : List Str} (X : K.In h) (G : h.Ns mainGlobals mg) (g : (He.Fa.glo x).ok K = true) (t : He.tupB K x (ys.map He.Dv.str) = true) : TopTS K mg x ys := by
  refine ⟨_, He.glo_ok X G g, fun H => ?_⟩
  have := He.tupB_ok t H
  rw [List.map_map] at this
  exact this
end Bo

set_option Elab.async false
set_option linter.all false
set_option maxRecDepth 100000
set_option maxHeartbeats 4000000
set_option autoImplicit false
/-! Bo15: the laws' pen: a draw under n gives one of 0 .. n - 1. Plain mathematics. -/
namespace Bo
open PySem PySem.Spec PyProof.Rows L2

def d_pen : Sl → Hc → RS :=
  retS (newE (kA (blE listD (kA (slE (vE 0) nO (sO (cE (.int 60)))) (nA))) (kA (cE (.int 0)) (kA (cE (.int 0)) (nA)))))
def c_pen : List D → Hc → Res D := fnR 1 1 d_pen
def d_next : Sl → Hc → RS :=
  seqS (asgS 1 (opE ixD (vE 0) (cE (.int 1))))
  (seqS (subS (vE 0) (cE (.int 1)) (opE addD (vE 1) (cE (.int 1))))
  (seqS (asgS 2 (opE addD (opE mulD (vE 1) (cE (.int 1087))) (cE (.int 73))))
  (seqS (ifS (bT (opE neO (opE ixD (vE 0) (cE (.int 0))) (lstE (nA)))) (asgS 2 (opE ixD (opE ixD (vE 0) (cE (.int 0))) (opE modD (blE intD (kA (vE 1) (nA))) (blE lenD (kA (opE ixD (vE 0) (cE (.int 0))) (nA)))))) (nS))
  (seqS (ifS (andT (bT (opE ltO (vE 1) (blE lenD (kA (opE ixD (vE 0) (cE (.int 0))) (nA))))) (bT (opE geO (vE 2) (opE powD (cE (.int 10)) (cE (.int 18)))))) (retS (vE 2)) (nS))
  (seqS (asgS 3 (opE modD (blE intD (kA (opE addD (opE addD (opE modD (blE intD (kA (vE 2) (nA))) (cE (.int 2147483587))) (opE mulD (vE 1) (cE (.int 30133)))) (cE (.int 101))) (nA))) (cE (.int 2147483587))))
  (seqS (asgS 4 (opE modD (blE intD (kA (opE addD (opE addD (opE mulD (vE 3) (vE 3)) (opE mulD (vE 1) (cE (.int 70111)))) (cE (.int 73))) (nA))) (cE (.int 2147483563))))
  (seqS (asgS 5 (opE modD (blE intD (kA (opE addD (opE addD (opE mulD (vE 4) (vE 4)) (vE 3)) (opE mulD (opE mulD (vE 1) (vE 1)) (cE (.int 47)))) (nA))) (cE (.int 2147483549))))
  (retS (opE addD (opE mulD (opE addD (opE mulD (vE 5) (cE (.int 2147483587))) (vE 4)) (cE (.int 2147483563))) (vE 3))))))))))
def c_next : List D → Hc → Res D := fnR 1 6 d_next
def d_draw : Sl → Hc → RS :=
  seqS (ifS (bT (opE ltO (opE ixD (vE 0) (cE (.int 2))) (vE 1))) (subS (vE 0) (cE (.int 2)) (callE c_next (kA (vE 0) (nA)))) (nS))
  (seqS (asgS 2 (opE modD (blE intD (kA (opE ixD (vE 0) (cE (.int 2))) (nA))) (vE 1)))
  (seqS (subS (vE 0) (cE (.int 2)) (opE fdivD (opE ixD (vE 0) (cE (.int 2))) (vE 1)))
  (retS (vE 2))))
def c_draw : List D → Hc → Res D := fnR 2 3 d_draw

/-- the pen at p -/
def PenAt (hc : Hc) (p : Nat) (cs : List Int) (i v : Int) : Prop := hc.get p = some (.lst [.lst (cs.map D.int), .int i, .int v])
/-- all but the pen is as it was -/
structure Same (p : Nat) (hc hc' : Hc) : Prop where
  nx : hc'.next = hc.next
  get : ∀ q, q ≠ p → hc'.get q = hc.get q
  sh : ∀ (pre : List (Nat × Ob)) (o : Ob), hc.m = pre ++ [(p, o)] → (∀ x ∈ pre, x.1 ≠ p) → ∃ o', hc'.m = pre ++ [(p, o')]
theorem Same.refl (p : Nat) (hc : Hc) : Same p hc hc := ⟨rfl, fun _ _ => rfl, fun _ o h _ => ⟨o, h⟩⟩
theorem Same.trans {p : Nat} {a b c : Hc} (x : Same p a b) (y : Same p b c) : Same p a c := ⟨y.1.trans x.1, fun q h => (y.2 q h).trans (x.2 q h), fun pre o h hp => let ⟨o', h'⟩ := x.3 pre o h hp; y.3 pre o' h' hp⟩
theorem setM_end {p : Nat} {o o' : Ob} : ∀ (pre : List (Nat × Ob)), (∀ x ∈ pre, x.1 ≠ p) → setM p o' (pre ++ [(p, o)]) = pre ++ [(p, o')]
  | [], _ => by simp [setM]
  | a :: r, h => by
    have e : setM p o' ((a :: r) ++ [(p, o)]) = a :: setM p o' (r ++ [(p, o)]) := by
      rw [List.cons_append, setM, if_neg (h a List.mem_cons_self)]
    rw [e, setM_end r fun x hx => h x (List.mem_cons_of_mem _ hx)]
    rfl
theorem same_set {p : Nat} {hc : Hc} {o : Ob} : Same p hc (hc.set p o) := ⟨rfl, fun q h => by rw [Hc.get_set, if_neg h], fun pre o1 h hp => ⟨o, by show setM p o hc.m = _; rw [h]; exact setM_end pre hp⟩⟩
theorem pen_set {p : Nat} {hc : Hc} {cs : List Int} {i v i' v' : Int} (h : PenAt hc p cs i v) : PenAt (hc.set p (.lst [.lst (cs.map D.int), .int i', .int v'])) p cs i' v' := by
  unfold PenAt at *
  rw [Hc.get_set, if_pos rfl, h]
  rfl
section
variable {hc : Hc} {p : Nat} {cs : List Int} {i v : Int}
theorem pen_lst (h : PenAt hc p cs i v) : hc.lst? (.loc p) = some [.lst (cs.map D.int), .int i, .int v] := by
  unfold PenAt at h
  simp only [Hc.lst?, h]
theorem pen0 (h : PenAt hc p cs i v) : ixD hc (.loc p) (.int 0) = some (.lst (cs.map D.int)) := by simp only [ixD, pen_lst h]; rfl
theorem pen1 (h : PenAt hc p cs i v) : ixD hc (.loc p) (.int 1) = some (.int i) := by simp only [ixD, pen_lst h]; rfl
theorem pen2 (h : PenAt hc p cs i v) : ixD hc (.loc p) (.int 2) = some (.int v) := by simp only [ixD, pen_lst h]; rfl
theorem put1 (h : PenAt hc p cs i v) (j : Int) : putD hc (.loc p) (.int 1) (.int j) = some (hc.set p (.lst [.lst (cs.map D.int), .int j, .int v])) := by
  unfold PenAt at h
  simp only [putD, h]; rfl
theorem put2 (h : PenAt hc p cs i v) (j : Int) : putD hc (.loc p) (.int 2) (.int j) = some (hc.set p (.lst [.lst (cs.map D.int), .int i, .int j])) := by
  unfold PenAt at h
  simp only [putD, h]; rfl
theorem cell_of (cs : List Int) (i : Int) (h0 : cs ≠ []) : ∃ c, ixD hc (.lst (cs.map D.int)) (.int (i % (cs.length : Int))) = some (.int c) := by
  have hp : 0 < (cs.length : Int) := by
    have := List.length_pos_iff.mpr h0
    omega
  have h1 := Int.emod_nonneg i (show (cs.length : Int) ≠ 0 by omega)
  have h2 := Int.emod_lt_of_pos i hp
  obtain ⟨k, hk⟩ : ∃ k : Nat, i % (cs.length : Int) = k := ⟨(i % (cs.length : Int)).toNat, by omega⟩
  have hlt : k < cs.length := by omega
  refine ⟨cs[k], ?_⟩
  rw [hk]
  show atI (cs.map D.int) (k : Int) = _
  unfold atI
  have : ixN (cs.map D.int).length (k : Int) = some k := by
    unfold ixN
    simp
    omega
  rw [this]
  simp [List.getElem?_eq_getElem hlt]
end

theorem toPys_ints : ∀ cs : List Int, toPys (cs.map D.int) = some (cs.map PyData.int)
  | [] => rfl
  | c :: cs => by
    have := toPys_ints cs
    simp only [List.map_cons, toPys, toPy, this, Option.bind_some, Option.map_some]
theorem lay_ints : ∀ cs : List Int, PyData.canLayAll0 (cs.map PyData.int) = true
  | [] => by simp only [List.map_nil, PyData.canLayAll0]
  | c :: cs => by simp only [List.map_cons, PyData.canLayAll0, PyData.canLay0, lay_ints cs, Bool.and_self]
theorem depth_ints : ∀ cs : List Int, PyData.depthAll (cs.map PyData.int) ≤ 1
  | [] => by simp [PyData.depthAll]
  | c :: cs => by
    have := depth_ints cs
    rw [List.map_cons, PyData.depthAll]
    exact Nat.max_le.mpr ⟨by simp [PyData.depth], this⟩
theorem neO_nil (hc : Hc) (cs : List Int) : neO hc (.lst (cs.map D.int)) (.lst []) = some (.bl (!cs.isEmpty)) := by
  have h1 : SeqAt.shaped (.list (cs.map PyData.int)) = true := by
    have := depth_ints cs
    unfold SeqAt.shaped
    rw [Bool.and_eq_true]
    exact ⟨by simp only [PyData.canLay0, lay_ints], decide_eq_true (by rw [PyData.depth]; omega)⟩
  have h2 : SeqAt.shaped (.list []) = true := by decide
  have e : eqD hc (.lst (cs.map D.int)) (.lst []) = some cs.isEmpty := by
    show (match toPy1 hc (.lst (cs.map D.int)), toPy1 hc (.lst []) with
      | some p, some q => if SeqAt.shaped p && SeqAt.shaped q then some (PyData.eqv p q) else none
      | _, _ => none) = _
    have t1 : toPy1 hc (.lst (cs.map D.int)) = some (.list (cs.map PyData.int)) := by
      show toPy (.lst (cs.map D.int)) = _
      simp only [toPy, toPys_ints, Option.map_some]
    have t2 : toPy1 hc (.lst []) = some (.list []) := by
      show toPy (.lst []) = _
      simp only [toPy, toPys, Option.map_some]
    rw [t1, t2]
    simp only [h1, h2, Bool.and_self, if_true]
    cases cs with
    | nil => simp [PyData.eqv, PyData.eqvAll]
    | cons c cs => simp [PyData.eqv, PyData.eqvAll]
  unfold neO
  rw [e]
  rfl
def d_tail : Sl → Hc → RS :=
  seqS (asgS 3 (opE modD (blE intD (kA (opE addD (opE addD (opE modD (blE intD (kA (vE 2) (nA))) (cE (.int 2147483587))) (opE mulD (vE 1) (cE (.int 30133)))) (cE (.int 101))) (nA))) (cE (.int 2147483587))))
  (seqS (asgS 4 (opE modD (blE intD (kA (opE addD (opE addD (opE mulD (vE 3) (vE 3)) (opE mulD (vE 1) (cE (.int 70111)))) (cE (.int 73))) (nA))) (cE (.int 2147483563))))
  (seqS (asgS 5 (opE modD (blE intD (kA (opE addD (opE addD (opE mulD (vE 4) (vE 4)) (vE 3)) (opE mulD (opE mulD (vE 1) (vE 1)) (cE (.int 47)))) (nA))) (cE (.int 2147483549))))
  (retS (opE addD (opE mulD (opE addD (opE mulD (vE 5) (cE (.int 2147483587))) (vE 4)) (cE (.int 2147483563))) (vE 3)))))
theorem mul_l {hc : Hc} {a b : Int} (h0 : 0 ≤ a) (h : a < 2 ^ 64) : mulD hc (.int a) (.int b) = some (.int (a * b)) := by
  have : small64 a = true := by
    unfold small64
    rw [Bool.and_eq_true]
    exact ⟨decide_eq_true (by omega), decide_eq_true h⟩
  simp only [mulD, this, Bool.true_or, if_true]
theorem mul_r {hc : Hc} {a b : Int} (h0 : 0 ≤ b) (h : b < 2 ^ 64) : mulD hc (.int a) (.int b) = some (.int (a * b)) := by
  have : small64 b = true := by
    unfold small64
    rw [Bool.and_eq_true]
    exact ⟨decide_eq_true (by omega), decide_eq_true h⟩
  simp only [mulD, this, Bool.or_true, if_true]
theorem mod_p {hc : Hc} {a b : Int} (h : 0 < b) : modD hc (.int a) (.int b) = some (.int (a % b)) := by simp only [modD, h, if_true]
theorem tail_spec {hc : Hc} {x : D} {i c : Int} {a b e : Option D} (hi : 0 ≤ i) (hi2 : i < 2 ^ 62) : ∃ r, d_tail [some x, some (.int i), some (.int c), a, b, e] hc = .rt (.int r) hc ∧ 0 ≤ r := by
  obtain ⟨s, hs⟩ : ∃ s : Int, s = (c % 2147483587 + i * 30133 + 101) % 2147483587 := ⟨_, rfl⟩
  obtain ⟨m, hm⟩ : ∃ m : Int, m = (s * s + i * 70111 + 73) % 2147483563 := ⟨_, rfl⟩
  obtain ⟨t, ht⟩ : ∃ t : Int, t = (m * m + s + i * i * 47) % 2147483549 := ⟨_, rfl⟩
  have s0 : 0 ≤ s ∧ s < 2147483587 := by omega
  have m0 : 0 ≤ m ∧ m < 2147483563 := by
    rw [hm]
    exact ⟨Int.emod_nonneg _ (by decide), Int.emod_lt_of_pos _ (by decide)⟩
  have t0 : 0 ≤ t ∧ t < 2147483549 := by
    rw [ht]
    exact ⟨Int.emod_nonneg _ (by decide), Int.emod_lt_of_pos _ (by decide)⟩
  refine ⟨(t * 2147483587 + m) * 2147483563 + s, ?_, by omega⟩
  have e1 : mulD hc (.int i) (.int 30133) = some (.int (i * 30133)) := mul_r (by decide) (by decide)
  have e2 : mulD hc (.int s) (.int s) = some (.int (s * s)) := mul_l s0.1 (by omega)
  have e3 : mulD hc (.int i) (.int 70111) = some (.int (i * 70111)) := mul_r (by decide) (by decide)
  have e4 : mulD hc (.int m) (.int m) = some (.int (m * m)) := mul_l m0.1 (by omega)
  have e5 : mulD hc (.int i) (.int i) = some (.int (i * i)) := mul_l hi (by omega)
  have e6 : mulD hc (.int (i * i)) (.int 47) = some (.int (i * i * 47)) := mul_r (by decide) (by decide)
  have e7 : mulD hc (.int t) (.int 2147483587) = some (.int (t * 2147483587)) := mul_r (by decide) (by decide)
  have e8 : mulD hc (.int (t * 2147483587 + m)) (.int 2147483563) = some (.int ((t * 2147483587 + m) * 2147483563)) := mul_r (by decide) (by decide)
  have f1 : ∀ a : Int, modD hc (.int a) (.int 2147483587) = some (.int (a % 2147483587)) := fun a => mod_p (by decide)
  have f2 : ∀ a : Int, modD hc (.int a) (.int 2147483563) = some (.int (a % 2147483563)) := fun a => mod_p (by decide)
  have f3 : ∀ a : Int, modD hc (.int a) (.int 2147483549) = some (.int (a % 2147483549)) := fun a => mod_p (by decide)
  unfold d_tail
  simp only [fnR, startS, seqS, ifS, retS, asgS, exS, nS, subS, Res.toS, Res.bind, vE, cE, opE, unE, blE, kA, nA, callE, lift, andT, orT, nT, bT, List.getElem?_cons_zero, List.getElem?_cons_succ, List.set_cons_zero, List.set_cons_succ, List.map_cons, List.map_nil, List.length_cons, List.length_nil, List.replicate_succ, List.replicate_zero, List.cons_append, List.nil_append, Nat.reduceAdd, Nat.reduceSub, Nat.add_one_sub_one, if_true, if_false, reduceIte, Bool.false_eq_true, intD, addD, f1, f2, f3, e1]
  simp only [fnR, startS, seqS, ifS, retS, asgS, exS, nS, subS, Res.toS, Res.bind, vE, cE, opE, unE, blE, kA, nA, callE, lift, andT, orT, nT, bT, List.getElem?_cons_zero, List.getElem?_cons_succ, List.set_cons_zero, List.set_cons_succ, List.map_cons, List.map_nil, List.length_cons, List.length_nil, List.replicate_succ, List.replicate_zero, List.cons_append, List.nil_append, Nat.reduceAdd, Nat.reduceSub, Nat.add_one_sub_one, if_true, if_false, reduceIte, Bool.false_eq_true, intD, addD, f1, f2, f3, ← hs, e2, e3]
  simp only [fnR, startS, seqS, ifS, retS, asgS, exS, nS, subS, Res.toS, Res.bind, vE, cE, opE, unE, blE, kA, nA, callE, lift, andT, orT, nT, bT, List.getElem?_cons_zero, List.getElem?_cons_succ, List.set_cons_zero, List.set_cons_succ, List.map_cons, List.map_nil, List.length_cons, List.length_nil, List.replicate_succ, List.replicate_zero, List.cons_append, List.nil_append, Nat.reduceAdd, Nat.reduceSub, Nat.add_one_sub_one, if_true, if_false, reduceIte, Bool.false_eq_true, intD, addD, f1, f2, f3, ← hm, e4, e5, e6]
  simp only [fnR, startS, seqS, ifS, retS, asgS, exS, nS, subS, Res.toS, Res.bind, vE, cE, opE, unE, blE, kA, nA, callE, lift, andT, orT, nT, bT, List.getElem?_cons_zero, List.getElem?_cons_succ, List.set_cons_zero, List.set_cons_succ, List.map_cons, List.map_nil, List.length_cons, List.length_nil, List.replicate_succ, List.replicate_zero, List.cons_append, List.nil_append, Nat.reduceAdd, Nat.reduceSub, Nat.add_one_sub_one, if_true, if_false, reduceIte, Bool.false_eq_true, intD, addD, f1, f2, f3, ← ht, e7, e8]
section
variable {hc : Hc} {p : Nat} {cs : List Int} {i v : Int}
theorem next_spec (h : PenAt hc p cs i v) (hi : 0 ≤ i) (hi2 : i < 2 ^ 62) : ∃ r hc', c_next [.loc p] hc = .ok (.int r) hc' ∧ 0 ≤ r ∧ PenAt hc' p cs (i + 1) v ∧ Same p hc hc' := by
  obtain ⟨hc1, h1e⟩ : ∃ hc1, hc1 = hc.set p (.lst [.lst (cs.map D.int), .int (i + 1), .int v]) := ⟨_, rfl⟩
  have h1 : PenAt hc1 p cs (i + 1) v := h1e ▸ pen_set h
  have hs : Same p hc hc1 := h1e ▸ same_set
  have em : mulD hc1 (.int i) (.int 1087) = some (.int (i * 1087)) := mul_r (by decide) (by decide)
  have ep : powD hc1 (.int 10) (.int 18) = some (.int 1000000000000000000) := rfl
  have el : lenD hc1 [.lst (cs.map D.int)] = some (.int (cs.length : Int)) := by
    simp only [lenD, Hc.lst?, Option.map_some, List.length_map]
  have key : ∀ (c : Int), ∃ r, seqS (ifS (andT (bT (opE ltO (vE 1) (blE lenD (kA (opE ixD (vE 0) (cE (.int 0))) (nA))))) (bT (opE geO (vE 2) (opE powD (cE (.int 10)) (cE (.int 18)))))) (retS (vE 2)) (nS)) d_tail [some (.loc p), some (.int i), some (.int c), none, none, none] hc1 = .rt (.int r) hc1 ∧ 0 ≤ r := fun c => by
    obtain ⟨r, hr, h0⟩ := tail_spec (hc := hc1) (x := .loc p) (i := i) (c := c) (a := none) (b := none) (e := none) hi hi2
    by_cases q1 : i < (cs.length : Int)
    · by_cases q2 : (1000000000000000000 : Int) ≤ c
      · refine ⟨c, ?_, by omega⟩
        simp only [fnR, startS, seqS, ifS, retS, asgS, exS, nS, subS, Res.toS, Res.bind, vE, cE, opE, unE, blE, kA, nA, callE, lift, andT, orT, nT, bT, List.getElem?_cons_zero, List.getElem?_cons_succ, List.set_cons_zero, List.set_cons_succ, List.map_cons, List.map_nil, List.length_cons, List.length_nil, List.replicate_succ, List.replicate_zero, List.cons_append, List.nil_append, Nat.reduceAdd, Nat.reduceSub, Nat.add_one_sub_one, if_true, if_false, reduceIte, Bool.false_eq_true, pen0 h1, el, ltO, geO, ep, q1, q2, decide_true]
      · refine ⟨r, ?_, h0⟩
        rw [← hr]
        simp only [fnR, startS, seqS, ifS, retS, asgS, exS, nS, subS, Res.toS, Res.bind, vE, cE, opE, unE, blE, kA, nA, callE, lift, andT, orT, nT, bT, List.getElem?_cons_zero, List.getElem?_cons_succ, List.set_cons_zero, List.set_cons_succ, List.map_cons, List.map_nil, List.length_cons, List.length_nil, List.replicate_succ, List.replicate_zero, List.cons_append, List.nil_append, Nat.reduceAdd, Nat.reduceSub, Nat.add_one_sub_one, if_true, if_false, reduceIte, Bool.false_eq_true, pen0 h1, el, ltO, geO, ep, q1, q2, decide_true, decide_false]
    · refine ⟨r, ?_, h0⟩
      rw [← hr]
      simp only [fnR, startS, seqS, ifS, retS, asgS, exS, nS, subS, Res.toS, Res.bind, vE, cE, opE, unE, blE, kA, nA, callE, lift, andT, orT, nT, bT, List.getElem?_cons_zero, List.getElem?_cons_succ, List.set_cons_zero, List.set_cons_succ, List.map_cons, List.map_nil, List.length_cons, List.length_nil, List.replicate_succ, List.replicate_zero, List.cons_append, List.nil_append, Nat.reduceAdd, Nat.reduceSub, Nat.add_one_sub_one, if_true, if_false, reduceIte, Bool.false_eq_true, pen0 h1, el, ltO, q1, decide_false]
  by_cases hn : cs = []
  · obtain ⟨r, hr, h0⟩ := key (i * 1087 + 73)
    refine ⟨r, hc1, ?_, h0, h1, hs⟩
    have en := neO_nil hc1 cs
    rw [hn] at en
    have en' : neO hc1 (.lst (cs.map D.int)) (.lst []) = some (.bl false) := by rw [hn]; exact en
    have : d_next = seqS (asgS 1 (opE ixD (vE 0) (cE (.int 1)))) (seqS (subS (vE 0) (cE (.int 1)) (opE addD (vE 1) (cE (.int 1)))) (seqS (asgS 2 (opE addD (opE mulD (vE 1) (cE (.int 1087))) (cE (.int 73))))
      (seqS (ifS (bT (opE neO (opE ixD (vE 0) (cE (.int 0))) (lstE (nA)))) (asgS 2 (opE ixD (opE ixD (vE 0) (cE (.int 0))) (opE modD (blE intD (kA (vE 1) (nA))) (blE lenD (kA (opE ixD (vE 0) (cE (.int 0))) (nA)))))) (nS))
      (seqS (ifS (andT (bT (opE ltO (vE 1) (blE lenD (kA (opE ixD (vE 0) (cE (.int 0))) (nA))))) (bT (opE geO (vE 2) (opE powD (cE (.int 10)) (cE (.int 18)))))) (retS (vE 2)) (nS)) d_tail)))) := rfl
    unfold c_next
    rw [this]
    generalize seqS (ifS (andT (bT (opE ltO (vE 1) (blE lenD (kA (opE ixD (vE 0) (cE (.int 0))) (nA))))) (bT (opE geO (vE 2) (opE powD (cE (.int 10)) (cE (.int 18)))))) (retS (vE 2)) (nS)) d_tail = rest at hr ⊢
    simp only [fnR, startS, seqS, ifS, retS, asgS, exS, nS, subS, Res.toS, Res.bind, vE, cE, opE, unE, blE, kA, nA, callE, lift, andT, orT, nT, bT, List.getElem?_cons_zero, List.getElem?_cons_succ, List.set_cons_zero, List.set_cons_succ, List.map_cons, List.map_nil, List.length_cons, List.length_nil, List.replicate_succ, List.replicate_zero, List.cons_append, List.nil_append, Nat.reduceAdd, Nat.reduceSub, Nat.add_one_sub_one, if_true, if_false, reduceIte, Bool.false_eq_true, pen1 h, addD, put1 h, ← h1e, em, pen0 h1, lstE, en', Nat.zero_le]
    simp only [hr]
  · obtain ⟨cc, hcc⟩ := cell_of (hc := hc1) cs i hn
    obtain ⟨r, hr, h0⟩ := key cc
    refine ⟨r, hc1, ?_, h0, h1, hs⟩
    have hpos : 0 < (cs.length : Int) := by
      have := List.length_pos_iff.mpr hn
      omega
    have em2 : modD hc1 (.int i) (.int (cs.length : Int)) = some (.int (i % (cs.length : Int))) := mod_p hpos
    have en' : neO hc1 (.lst (cs.map D.int)) (.lst []) = some (.bl true) := by
      rw [neO_nil]
      cases cs with
      | nil => exact absurd rfl hn
      | cons _ _ => rfl
    have : d_next = seqS (asgS 1 (opE ixD (vE 0) (cE (.int 1)))) (seqS (subS (vE 0) (cE (.int 1)) (opE addD (vE 1) (cE (.int 1)))) (seqS (asgS 2 (opE addD (opE mulD (vE 1) (cE (.int 1087))) (cE (.int 73))))
      (seqS (ifS (bT (opE neO (opE ixD (vE 0) (cE (.int 0))) (lstE (nA)))) (asgS 2 (opE ixD (opE ixD (vE 0) (cE (.int 0))) (opE modD (blE intD (kA (vE 1) (nA))) (blE lenD (kA (opE ixD (vE 0) (cE (.int 0))) (nA)))))) (nS))
      (seqS (ifS (andT (bT (opE ltO (vE 1) (blE lenD (kA (opE ixD (vE 0) (cE (.int 0))) (nA))))) (bT (opE geO (vE 2) (opE powD (cE (.int 10)) (cE (.int 18)))))) (retS (vE 2)) (nS)) d_tail)))) := rfl
    unfold c_next
    rw [this]
    generalize seqS (ifS (andT (bT (opE ltO (vE 1) (blE lenD (kA (opE ixD (vE 0) (cE (.int 0))) (nA))))) (bT (opE geO (vE 2) (opE powD (cE (.int 10)) (cE (.int 18)))))) (retS (vE 2)) (nS)) d_tail = rest at hr ⊢
    simp only [fnR, startS, seqS, ifS, retS, asgS, exS, nS, subS, Res.toS, Res.bind, vE, cE, opE, unE, blE, kA, nA, callE, lift, andT, orT, nT, bT, List.getElem?_cons_zero, List.getElem?_cons_succ, List.set_cons_zero, List.set_cons_succ, List.map_cons, List.map_nil, List.length_cons, List.length_nil, List.replicate_succ, List.replicate_zero, List.cons_append, List.nil_append, Nat.reduceAdd, Nat.reduceSub, Nat.add_one_sub_one, if_true, if_false, reduceIte, Bool.false_eq_true, pen1 h, addD, put1 h, ← h1e, em, pen0 h1, lstE, en', Nat.zero_le, intD, el, em2, hcc]
    simp only [hr]
/-- the pen's number is at most B draws on -/
def Pen (p : Nat) (B : Int) (hc : Hc) : Prop := ∃ cs i v, PenAt hc p cs i v ∧ 0 ≤ i ∧ i ≤ B ∧ 0 ≤ v
theorem Pen.mono {p : Nat} {B B' : Int} {hc : Hc} (h : Pen p B hc) (k : B ≤ B') : Pen p B' hc := by
  obtain ⟨cs, i, v, h1, h2, h3, h4⟩ := h
  exact ⟨cs, i, v, h1, h2, by omega, h4⟩
theorem draw_spec {B : Int} {n : Int} (h : Pen p B hc) (hB : B < 2 ^ 61) (hn : 0 < n) (hn2 : n < 1073741824) : ∃ r hc', c_draw [.loc p, .int n] hc = .ok (.int r) hc' ∧ 0 ≤ r ∧ r < n ∧ Pen p (B + 1) hc' ∧ Same p hc hc' := by
  obtain ⟨cs, i, v, h, hi, hi2, hv⟩ := h
  have fin : ∀ (hc1 : Hc) (i1 v1 : Int), PenAt hc1 p cs i1 v1 → 0 ≤ i1 → i1 ≤ B + 1 → 0 ≤ v1 → Same p hc hc1 → ∃ r hc', (seqS (asgS 2 (opE modD (blE intD (kA (opE ixD (vE 0) (cE (.int 2))) (nA))) (vE 1)))
      (seqS (subS (vE 0) (cE (.int 2)) (opE fdivD (opE ixD (vE 0) (cE (.int 2))) (vE 1)))
      (retS (vE 2)))) [some (.loc p), some (.int n), none] hc1 = .rt (.int r) hc' ∧ 0 ≤ r ∧ r < n ∧ Pen p (B + 1) hc' ∧ Same p hc hc' := fun hc1 i1 v1 h1 hi1 hi12 hv1 hs => by
    have em : modD hc1 (.int v1) (.int n) = some (.int (v1 % n)) := mod_p hn
    have ed : fdivD hc1 (.int v1) (.int n) = some (.int (v1 / n)) := by simp only [fdivD, hn, hn2, decide_true, Bool.and_self, if_true]
    refine ⟨v1 % n, _, ?_, Int.emod_nonneg _ (by omega), Int.emod_lt_of_pos _ hn, ⟨cs, i1, v1 / n, pen_set (i' := i1) (v' := v1 / n) h1, hi1, hi12, Int.ediv_nonneg hv1 (by omega)⟩, hs.trans same_set⟩
    simp only [fnR, startS, seqS, ifS, retS, asgS, exS, nS, subS, Res.toS, Res.bind, vE, cE, opE, unE, blE, kA, nA, callE, lift, andT, orT, nT, bT, List.getElem?_cons_zero, List.getElem?_cons_succ, List.set_cons_zero, List.set_cons_succ, List.map_cons, List.map_nil, List.length_cons, List.length_nil, List.replicate_succ, List.replicate_zero, List.cons_append, List.nil_append, Nat.reduceAdd, Nat.reduceSub, Nat.add_one_sub_one, if_true, if_false, reduceIte, Bool.false_eq_true, pen2 h1, intD, em, ed, put2 h1]
  by_cases q : v < n
  · obtain ⟨r0, hc1, e1, r00, h1, s1⟩ := next_spec h hi (by omega)
    obtain ⟨r, hc', e2, f1, f2, f3, f4⟩ := fin _ (i + 1) r0 (pen_set (i' := i + 1) (v' := r0) h1) (by omega) (by omega) r00 (s1.trans same_set)
    refine ⟨r, hc', ?_, f1, f2, f3, f4⟩
    unfold c_draw d_draw
    generalize (seqS (asgS 2 (opE modD (blE intD (kA (opE ixD (vE 0) (cE (.int 2))) (nA))) (vE 1))) (seqS (subS (vE 0) (cE (.int 2)) (opE fdivD (opE ixD (vE 0) (cE (.int 2))) (vE 1))) (retS (vE 2)))) = rest at e2 ⊢
    simp only [fnR, startS, seqS, ifS, retS, asgS, exS, nS, subS, Res.toS, Res.bind, vE, cE, opE, unE, blE, kA, nA, callE, lift, andT, orT, nT, bT, List.getElem?_cons_zero, List.getElem?_cons_succ, List.set_cons_zero, List.set_cons_succ, List.map_cons, List.map_nil, List.length_cons, List.length_nil, List.replicate_succ, List.replicate_zero, List.cons_append, List.nil_append, Nat.reduceAdd, Nat.reduceSub, Nat.add_one_sub_one, if_true, if_false, reduceIte, Bool.false_eq_true, pen2 h, ltO, q, decide_true, e1, put2 h1]
    simp only [e2]
  · obtain ⟨r, hc', e2, f1, f2, f3, f4⟩ := fin hc i v h hi (by omega) hv (.refl _ _)
    refine ⟨r, hc', ?_, f1, f2, f3, f4⟩
    unfold c_draw d_draw
    generalize (seqS (asgS 2 (opE modD (blE intD (kA (opE ixD (vE 0) (cE (.int 2))) (nA))) (vE 1))) (seqS (subS (vE 0) (cE (.int 2)) (opE fdivD (opE ixD (vE 0) (cE (.int 2))) (vE 1))) (retS (vE 2)))) = rest at e2 ⊢
    simp only [fnR, startS, seqS, ifS, retS, asgS, exS, nS, subS, Res.toS, Res.bind, vE, cE, opE, unE, blE, kA, nA, callE, lift, andT, orT, nT, bT, List.getElem?_cons_zero, List.getElem?_cons_succ, List.set_cons_zero, List.set_cons_succ, List.map_cons, List.map_nil, List.length_cons, List.length_nil, List.replicate_succ, List.replicate_zero, List.cons_append, List.nil_append, Nat.reduceAdd, Nat.reduceSub, Nat.add_one_sub_one, if_true, if_false, reduceIte, Bool.false_eq_true, pen2 h, ltO, q, decide_false]
    simp only [e2]
end
end Bo

set_option Elab.async false
set_option linter.all false
set_option maxRecDepth 100000
set_option maxHeartbeats 4000000
set_option autoImplicit false
/-! Bo16: plain lemmas: draws that are left, comprehensions, texts and rows of texts. -/
namespace Bo
open PySem PySem.Spec PyProof.Rows L2

/-! ### n draws are left -/
def Bud (p n : Nat) (hc : Hc) : Prop := ∃ B : Int, Pen p B hc ∧ B + n ≤ 2 ^ 60
theorem Bud.mono {p n m : Nat} {hc : Hc} (h : Bud p n hc) (k : m ≤ n) : Bud p m hc := by
  obtain ⟨B, h1, h2⟩ := h
  exact ⟨B, h1, by omega⟩
theorem bud_draw {p n : Nat} {hc : Hc} {u : Int} (h : Bud p (n + 1) hc) (hu : 0 < u) (hu2 : u < 1073741824) : ∃ r hc', c_draw [.loc p, .int u] hc = .ok (.int r) hc' ∧ 0 ≤ r ∧ r < u ∧ Bud p n hc' ∧ Same p hc hc' := by
  obtain ⟨B, h1, h2⟩ := h
  obtain ⟨r, hc', e, a, b, c, d⟩ := draw_spec h1 (by omega) hu hu2
  exact ⟨r, hc', e, a, b, ⟨B + 1, c, by omega⟩, d⟩
/-- the same with the digit as a Nat -/
theorem bud_nat {p n : Nat} {hc : Hc} (u : Nat) (h : Bud p (n + 1) hc) (hu : 0 < u) (hu2 : u < 1073741824) : ∃ r hc', r < u ∧ c_draw [.loc p, .int (u : Int)] hc = .ok (.int (r : Nat)) hc' ∧ Bud p n hc' ∧ Same p hc hc' := by
  obtain ⟨r, hc', e, a, b, c, d⟩ := bud_draw (u := (u : Int)) h (by omega) (by omega)
  refine ⟨r.toNat, hc', by omega, ?_, c, d⟩
  rw [e]
  congr 2
  omega
theorem pen_made2 (ns : List Int) : ∃ o, c_pen [scr ns] hc0 = .ok (.loc 0) ⟨1, [(0, o)]⟩ ∧ Bud 0 1000000000 ⟨1, [(0, o)]⟩ := by
  have hs : (3 : Nat) ≤ sizeLine := by rw [sizeLine_eq]; decide
  obtain ⟨cs, hcs⟩ : ∃ cs : List Int, cutD (ns.map D.int) none (some 60) = cs.map D.int := by
    refine ⟨(ns.drop (HT.sIx (ns.map D.int).length 0 none)).take (HT.sIx (ns.map D.int).length (ns.map D.int).length (some 60) - HT.sIx (ns.map D.int).length 0 none), ?_⟩
    unfold cutD
    rw [List.map_take, List.map_drop]
  refine ⟨.lst [.lst (cs.map D.int), .int 0, .int 0], ?_, 0, ⟨cs, 0, 0, ?_, by omega, by omega, by omega⟩, by decide⟩
  show c_pen [scr ns] hc0 = .ok (.loc 0) (hc0.new (.lst [.lst (cs.map D.int), .int 0, .int 0]))
  · unfold c_pen d_pen scr
    simp only [fnR, startS, seqS, ifS, retS, asgS, exS, nS, subS, Res.toS, Res.bind, vE, cE, opE, unE, blE, kA, nA, callE, lift, andT, orT, nT, bT, List.getElem?_cons_zero, List.getElem?_cons_succ, List.set_cons_zero, List.set_cons_succ, List.map_cons, List.map_nil, List.length_cons, List.length_nil, List.replicate_succ, List.replicate_zero, List.cons_append, List.nil_append, Nat.reduceAdd, Nat.reduceSub, Nat.add_one_sub_one, if_true, if_false, reduceIte, Bool.false_eq_true, newE, slE, nO, sO, slD, Hc.lst?, Option.map_some, hcs, listD, hs]
    rfl
  · rfl
theorem pen_made (ns : List Int) : ∃ hc, c_pen [scr ns] hc0 = .ok (.loc 0) hc ∧ Bud 0 1000000000 hc := let ⟨_, e, b⟩ := pen_made2 ns; ⟨_, e, b⟩
/-! ### a comprehension whose items are drawn -/
theorem mapC_bud {ft : D → Sl → Option Sl} {fe : Sl → Hc → Res D} {sl : Sl} {P : D → Prop} {p k : Nat}
    (h : ∀ d, ∃ sl1, ft d sl = some sl1 ∧ ∀ n hc, Bud p (n + k) hc → ∃ y hc', fe sl1 hc = .ok y hc' ∧ P y ∧ Bud p n hc' ∧ Same p hc hc') :
    ∀ (ds : List D) (n : Nat) (hc : Hc), Bud p (n + k * ds.length) hc → ∃ ys hc', mapC ft yT fe sl ds hc = .ok ys hc' ∧ ys.length = ds.length ∧ (∀ y ∈ ys, P y) ∧ Bud p n hc' ∧ Same p hc hc'
  | [], n, hc, b => ⟨[], hc, rfl, rfl, nofun, b.mono (by simp), .refl _ _⟩
  | d :: ds, n, hc, b => by
    obtain ⟨sl1, e1, h1⟩ := h d
    obtain ⟨y, hc1, e2, py, b1, s1⟩ := h1 (n + k * ds.length) hc (b.mono (by rw [List.length_cons, Nat.mul_succ]; omega))
    obtain ⟨ys, hc2, e3, l3, p3, b3, s3⟩ := mapC_bud h ds n hc1 b1
    refine ⟨y :: ys, hc2, ?_, by simp [l3], fun z hz => ?_, b3, s1.trans s3⟩
    · simp only [mapC, e1, yT, Res.bind, e2, e3, if_true]
    · rcases List.mem_cons.mp hz with rfl | hz
      · exact py
      · exact p3 z hz
/-- .. whose items are plain -/
theorem mapC_pure {ft : D → Sl → Option Sl} {fe : Sl → Hc → Res D} {sl : Sl} {hc : Hc} {f : D → D} :
    ∀ (ds : List D) (_ : ∀ d ∈ ds, ∃ sl1, ft d sl = some sl1 ∧ fe sl1 hc = .ok (f d) hc), mapC ft yT fe sl ds hc = .ok (ds.map f) hc
  | [], _ => rfl
  | d :: ds, h => by
    obtain ⟨sl1, e1, e2⟩ := h d List.mem_cons_self
    have := mapC_pure (f := f) ds fun z hz => h z (List.mem_cons_of_mem _ hz)
    simp only [mapC, e1, yT, Res.bind, e2, this, if_true, List.map_cons]
/-! ### texts -/
theorem toPys_strs : ∀ xs : List Str, toPys (xs.map D.str) = some (xs.map PyData.str)
  | [] => rfl
  | x :: xs => by simp only [List.map_cons, toPys, toPy, toPys_strs xs, Option.bind_some, Option.map_some]
theorem lay_strs : ∀ {xs : List Str} (_ : ∀ x ∈ xs, PyData.strOk x = true), PyData.canLayAll0 (xs.map PyData.str) = true
  | [], _ => by simp only [List.map_nil, PyData.canLayAll0]
  | x :: xs, h => by
    have h1 := lay_strs fun y hy => h y (List.mem_cons_of_mem _ hy)
    simp only [List.map_cons, PyData.canLayAll0, PyData.canLay0, h1, h x List.mem_cons_self, Bool.and_self]
theorem depth_strs : ∀ xs : List Str, PyData.depthAll (xs.map PyData.str) = 0
  | [] => by simp [PyData.depthAll]
  | x :: xs => by
    rw [List.map_cons, PyData.depthAll, depth_strs xs]
    simp [PyData.depth]
theorem shaped_strs {xs : List Str} (h : ∀ x ∈ xs, PyData.strOk x = true) : SeqAt.shaped (.list (xs.map PyData.str)) = true ∧ SeqAt.shaped (.tuple (xs.map PyData.str)) = true := by
  constructor
  · unfold SeqAt.shaped
    rw [Bool.and_eq_true]
    exact ⟨by simp only [PyData.canLay0, lay_strs h], decide_eq_true (by rw [PyData.depth, depth_strs]; omega)⟩
  · unfold SeqAt.shaped
    rw [Bool.and_eq_true]
    exact ⟨by simp only [PyData.canLay0, lay_strs h], decide_eq_true (by rw [PyData.depth, depth_strs]; omega)⟩
theorem shaped_str {x : Str} (h : PyData.strOk x = true) : SeqAt.shaped (.str x) = true := by
  unfold SeqAt.shaped
  rw [Bool.and_eq_true]
  exact ⟨by simp only [PyData.canLay0, h], decide_eq_true (by rw [PyData.depth]; omega)⟩
theorem eqv_strs : ∀ xs ys : List Str, PyData.eqvAll (xs.map PyData.str) (ys.map PyData.str) = decide (xs = ys)
  | [], [] => by simp [PyData.eqvAll]
  | [], _ :: _ => by simp [PyData.eqvAll]
  | _ :: _, [] => by simp [PyData.eqvAll]
  | x :: xs, y :: ys => by
    have h := eqv_strs xs ys
    simp only [List.map_cons, PyData.eqvAll, PyData.eqv, h, List.cons.injEq]
    by_cases h1 : x = y <;> by_cases h2 : xs = ys <;> simp [h1, h2]
theorem eq_strs {hc : Hc} {xs ys : List Str} (h1 : ∀ x ∈ xs, PyData.strOk x = true) (h2 : ∀ x ∈ ys, PyData.strOk x = true) : eqO hc (.lst (xs.map D.str)) (.lst (ys.map D.str)) = some (.bl (decide (xs = ys))) := by
  have t : ∀ zs : List Str, toPy1 hc (.lst (zs.map D.str)) = some (.list (zs.map PyData.str)) := fun zs => by
    show toPy (.lst (zs.map D.str)) = _
    simp only [toPy, toPys_strs, Option.map_some]
  have e : eqD hc (.lst (xs.map D.str)) (.lst (ys.map D.str)) = some (decide (xs = ys)) := by
    show (match toPy1 hc (.lst (xs.map D.str)), toPy1 hc (.lst (ys.map D.str)) with
      | some p, some q => if SeqAt.shaped p && SeqAt.shaped q then some (PyData.eqv p q) else none
      | _, _ => none) = _
    rw [t, t]
    simp only [(shaped_strs h1).1, (shaped_strs h2).1, Bool.and_self, if_true, PyData.eqv, eqv_strs]
  unfold eqO
  rw [e]
  rfl
/-- repr -/
theorem fits_of {p : PyData} (h1 : p.showable = true) (h2 : p.leavesShort 50 = true) (h3 : p.weight ≤ 100000) (h4 : p.depth ≤ 64) : fitsR p = true := by
  have := PyData.shown_le 50 (by omega) p h2
  have hs : sizeLine = 16777216 := sizeLine_eq
  unfold fitsR
  rw [h1, Bool.true_and, Bool.and_eq_true]
  exact ⟨decide_eq_true (by omega), decide_eq_true h4⟩
/-- a short text of small signs -/
def Wd (x : Str) : Prop := x.length ≤ 40 ∧ ∀ c ∈ x.cps.toList, c < 128
theorem Wd.ok {x : Str} (h : Wd x) : PyData.strOk x = true := by
  unfold PyData.strOk
  rw [← Array.all_toList, List.all_eq_true]
  intro c hc
  have := h.2 c hc
  exact decide_eq_true (by omega)
theorem Wd.short {x : Str} (h : Wd x) : (PyData.str x).leavesShort 50 = true := by
  simp only [PyData.leavesShort, List.all_eq_true, decide_eq_true_eq]
  intro c hc
  have := h.2 c hc
  have : (128 : Nat) ≤ 16 ^ 8 := by decide
  omega
theorem Wd.weight {x : Str} (h : Wd x) : (PyData.str x).weight ≤ 40 := by
  have := h.1
  simp only [PyData.weight]
  exact this
theorem Wd.repr {x : Str} {hc : Hc} (h : Wd x) : ∃ y, reprD hc (.str x) = some (.str y) := by
  have e : toPyR hc (.str x) = some (.str x) := rfl
  have f : fitsR (.str x) = true := fits_of (by simp [PyData.showable]) h.short (by have := h.weight; omega) (by simp [PyData.depth])
  exact ⟨_, by unfold reprD; rw [e, Option.bind_some, if_pos f]⟩
theorem short_all : ∀ {xs : List Str} (_ : ∀ x ∈ xs, Wd x), PyData.leavesShortAll 50 (xs.map PyData.str) = true
  | [], _ => by simp [PyData.leavesShortAll]
  | x :: xs, h => by
    have h1 := short_all fun y hy => h y (List.mem_cons_of_mem _ hy)
    simp only [List.map_cons, PyData.leavesShortAll, h1, (h x List.mem_cons_self).short, Bool.and_self]
theorem weight_all : ∀ {xs : List Str} (_ : ∀ x ∈ xs, Wd x), PyData.weightAll (xs.map PyData.str) ≤ 41 * xs.length
  | [], _ => by simp [PyData.weightAll]
  | x :: xs, h => by
    have h1 := weight_all fun y hy => h y (List.mem_cons_of_mem _ hy)
    have h2 := (h x List.mem_cons_self).weight
    rw [List.map_cons, PyData.weightAll, List.length_cons]
    omega
theorem repr_lst {xs : List Str} {hc : Hc} (h : ∀ x ∈ xs, Wd x) (hl : xs.length ≤ 1000) : ∃ y, reprD hc (.lst (xs.map D.str)) = some (.str y) := by
  have e : toPyR hc (.lst (xs.map D.str)) = some (.list (xs.map PyData.str)) := by
    show toPy (.lst (xs.map D.str)) = _
    simp only [toPy, toPys_strs, Option.map_some]
  have f : fitsR (.list (xs.map PyData.str)) = true := fits_of (by simp only [PyData.showable, PyData.showableAll_strs]) (by simp only [PyData.leavesShort, short_all h]) (by
    have := weight_all h
    rw [PyData.weight]
    omega) (by rw [PyData.depth, depth_strs]; omega)
  exact ⟨_, by unfold reprD; rw [e, Option.bind_some, if_pos f]⟩
theorem repr_tup {xs : List Str} {hc : Hc} (h : ∀ x ∈ xs, Wd x) (hl : xs.length ≤ 1000) : ∃ y, reprD hc (.tup (xs.map D.str)) = some (.str y) := by
  have e : toPyR hc (.tup (xs.map D.str)) = some (.tuple (xs.map PyData.str)) := by
    show toPy (.tup (xs.map D.str)) = _
    simp only [toPy, toPys_strs, Option.map_some]
  have f : fitsR (.tuple (xs.map PyData.str)) = true := fits_of (by simp only [PyData.showable, PyData.showableAll_strs]) (by simp only [PyData.leavesShort, short_all h]) (by
    have := weight_all h
    rw [PyData.weight]
    omega) (by rw [PyData.depth, depth_strs]; omega)
  exact ⟨_, by unfold reprD; rw [e, Option.bind_some, if_pos f]⟩
/-! ### sorted(set(texts)) -/
theorem dKs_strs : ∀ xs : List Str, dKs (xs.map D.str) = some (xs.map Sum.inr)
  | [] => rfl
  | x :: xs => by simp only [List.map_cons, dKs, dK, dKs_strs xs, Option.bind_some, Option.map_some]
theorem addAll_mem : ∀ (r ks : List Key) (k : Key), k ∈ addAll ks r ↔ k ∈ ks ∨ k ∈ r
  | [], ks, k => by simp [addAll]
  | a :: r, ks, k => by
    rw [addAll, addAll_mem r, List.mem_cons]
    have : k ∈ addKey ks a ↔ k ∈ ks ∨ k = a := by
      unfold addKey
      split
      · rename_i h
        rw [hasKey_iff] at h
        exact ⟨.inl, fun q => q.elim id fun e => e ▸ h⟩
      · rw [List.mem_cons]
        exact ⟨fun q => q.elim .inr .inl, fun q => q.elim .inr .inl⟩
    rw [this]
    exact ⟨fun q => q.elim (fun q => q.elim .inl fun e => .inr (.inl e)) fun e => .inr (.inr e), fun q => q.elim (fun e => .inl (.inl e)) fun q => q.elim (fun e => .inl (.inr e)) .inr⟩
theorem addAll_nodup : ∀ (r ks : List Key), ks.Nodup → (addAll ks r).Nodup
  | [], ks, h => h
  | a :: r, ks, h => by
    rw [addAll]
    refine addAll_nodup r _ ?_
    unfold addKey
    split
    · exact h
    · rename_i q
      refine List.nodup_cons.mpr ⟨fun z => q (hasKey_iff.mpr z), h⟩
theorem perm_of_mem {α : Type} : ∀ {l m : List α}, l.Nodup → m.Nodup → (∀ a, a ∈ l ↔ a ∈ m) → l.Perm m := fun h1 h2 h => (List.perm_ext_iff_of_nodup h1 h2).mpr h
/-- ascending texts -/
def Asc : List Str → Bool
  | x :: y :: r => ltS x y && Asc (y :: r)
  | _ => true
theorem ltS_irrefl (x : Str) : ltS x x = false := by
  unfold ltS
  simp [List.lt_irrefl]
theorem ltS_trans {x y z : Str} (h1 : ltS x y = true) (h2 : ltS y z = true) : ltS x z = true := by
  unfold ltS at *
  rw [decide_eq_true_eq] at *
  exact List.lt_trans h1 h2
theorem asc_pw : ∀ {xs : List Str}, Asc xs = true ↔ xs.Pairwise fun a b => ltS a b = true
  | [] => ⟨fun _ => .nil, fun _ => rfl⟩
  | [x] => ⟨fun _ => List.pairwise_singleton _ _, fun _ => rfl⟩
  | x :: y :: r => by
    have ih := asc_pw (xs := y :: r)
    rw [Asc, Bool.and_eq_true, ih, List.pairwise_cons (a := x)]
    refine ⟨fun ⟨h1, h2⟩ => ⟨fun z hz => ?_, h2⟩, fun ⟨h1, h2⟩ => ⟨h1 y List.mem_cons_self, h2⟩⟩
    rcases List.mem_cons.mp hz with rfl | hz
    · exact h1
    · exact ltS_trans h1 ((List.pairwise_cons.mp h2).1 z hz)
theorem le_keys (x y : Str) : PySem.W.dataLe false kP (.inr x) (.inr y) = !ltS y x := by
  show (!PySem.W.dataLt (.str y) (.str x)) = _
  rw [PySem.W.dataLt_str]
  rfl
theorem set_sorted (xs : List Str) : ∃ ys : List Str, sortK (addAll [] (xs.map Sum.inr)) = ys.map Sum.inr ∧ (∀ y ∈ ys, y ∈ xs) ∧ decide (xs = ys) = Asc xs ∧ (addAll [] (xs.map Sum.inr)).length ≤ xs.length := by
  have mem : ∀ k, k ∈ sortK (addAll [] (xs.map Sum.inr)) ↔ k ∈ xs.map Sum.inr := fun k => by
    unfold sortK
    rw [(List.mergeSort_perm _ _).mem_iff, addAll_mem]
    simp
  have nd : (sortK (addAll [] (xs.map Sum.inr))).Nodup := by
    unfold sortK
    exact (List.mergeSort_perm _ _).nodup_iff.mpr (addAll_nodup _ _ List.nodup_nil)
  have so := sortK_sorted (addAll [] (xs.map Sum.inr))
  obtain ⟨ys, hy⟩ : ∃ ys : List Str, sortK (addAll [] (xs.map Sum.inr)) = ys.map Sum.inr := by
    have : ∀ l : List Key, (∀ k ∈ l, k ∈ xs.map Sum.inr) → ∃ ys : List Str, l = ys.map Sum.inr := fun l => by
      induction l with
      | nil => exact fun _ => ⟨[], rfl⟩
      | cons k l ih =>
        intro h
        obtain ⟨ys, e⟩ := ih fun z hz => h z (List.mem_cons_of_mem _ hz)
        obtain ⟨x, _, ex⟩ := List.mem_map.mp (h k List.mem_cons_self)
        exact ⟨x :: ys, by rw [e, List.map_cons, ex]⟩
    exact this _ fun k hk => (mem k).mp hk
  rw [hy] at mem nd so
  have ym : ∀ y, y ∈ ys ↔ y ∈ xs := fun y => by
    have := mem (.inr y)
    simpa using this
  have ynd : ys.Nodup := List.nodup_iff_pairwise_ne.mpr ((List.pairwise_map.mp (List.nodup_iff_pairwise_ne.mp nd)).imp fun {a b} h e => h (by rw [e]))
  have yso : ys.Pairwise fun a b => ltS b a = false := by
    have := List.pairwise_map.mp so
    refine this.imp fun {a b} h => ?_
    rw [le_keys] at h
    simpa using h
  have yasc : ys.Pairwise fun a b => ltS a b = true := by
    have := yso.and (List.nodup_iff_pairwise_ne.mp ynd)
    refine this.imp fun {a b} ⟨h1, h2⟩ => ?_
    cases h : ltS a b with
    | true => rfl
    | false =>
      exfalso
      apply h2
      unfold ltS at h h1
      rw [decide_eq_false_iff_not] at h h1
      have : a.cps.toList = b.cps.toList := List.le_antisymm (List.not_lt.mp h1) (List.not_lt.mp h)
      exact PySem.W.str_of_cps this
  refine ⟨ys, hy, fun y h => (ym y).mp h, ?_, ?_⟩
  · cases h : Asc xs with
    | true =>
      apply decide_eq_true
      have pw := asc_pw.mp h
      have xnd : xs.Nodup := List.nodup_iff_pairwise_ne.mpr (pw.imp fun {a b} q e => by subst e; rw [ltS_irrefl] at q; cases q)
      refine List.Perm.eq_of_pairwise (le := fun a b => ltS a b = true) (fun a b _ _ h1 h2 => ?_) pw yasc (perm_of_mem xnd ynd fun a => (ym a).symm)
      have := ltS_trans h1 h2
      rw [ltS_irrefl] at this
      cases this
    | false =>
      apply decide_eq_false
      intro e
      subst e
      rw [asc_pw.mpr yasc] at h
      cases h
  · have : ∀ (r ks : List Key), (addAll ks r).length ≤ ks.length + r.length := fun r => by
      induction r with
      | nil => exact fun ks => Nat.le_refl _
      | cons a r ih =>
        intro ks
        have h1 := ih (addKey ks a)
        have h2 := addKey_len ks a
        rw [addAll, List.length_cons]
        omega
    have := this (xs.map Sum.inr) []
    simpa using this
/-- list(t) == sorted(set(t)) of texts -/
theorem sortset_strs {hc : Hc} {xs : List Str} (hl : xs.length ≤ 100) : ∃ ys : List Str, sortSetD hc [.tup (xs.map D.str)] = some (.lst (ys.map D.str)) ∧ (∀ y ∈ ys, y ∈ xs) ∧ decide (xs = ys) = Asc xs := by
  obtain ⟨ys, h1, h2, h3, h4⟩ := set_sorted xs
  refine ⟨ys, ?_, h2, h3⟩
  have hb : (xs.map D.str).length + 2 < scanBound := by
    rw [List.length_map]
    have : 1000 < scanBound := by decide
    omega
  have hsz : (addAll [] (xs.map Sum.inr)).length ≤ sizeLine := by
    rw [sizeLine_eq]; omega
  have hsame : sameK (addAll [] (xs.map Sum.inr)) = true := by
    unfold sameK
    rw [Bool.or_eq_true]
    right
    rw [List.all_eq_true]
    intro k hk
    rw [addAll_mem] at hk
    rcases hk with hk | hk
    · cases hk
    · obtain ⟨x, _, rfl⟩ := List.mem_map.mp hk
      rfl
  have e : (sortK (addAll [] (xs.map Sum.inr))).map kD = ys.map D.str := by
    rw [h1, List.map_map]
    rfl
  simp only [sortSetD, setK, seqOf, Option.bind_some, hb, if_true, dKs_strs, Option.map_some, hsame, hsz, decide_true, Bool.and_self, e]
end Bo

set_option Elab.async false
set_option linter.all false
set_option maxRecDepth 100000
set_option maxHeartbeats 4000000
set_option autoImplicit false
/-! Bo17: f-strings, str(), min, int(bool), text * int, append and pop of numbered lists, list(..) as a numbered list. -/
namespace Bo
open PySem PySem.Spec PyProof.Rows L2

/-! ### f-strings -/
def fmtD (_ : Hc) : D → Option D
  | .str y => if y.length ≤ sizeLine then some (.str y) else none
  | .int i => if i.natAbs.log2 < 1920 then some (.str (toString i)) else none
  | _ => none
def jsR : List (Sl → Hc → Res D) → Str → Sl → Hc → Res D
  | [], acc, _, hc => .ok (.str acc) hc
  | f :: fs, acc, sl, hc => (f sl hc).bind fun d hc1 => match d with
    | .str y => if (acc ++ y).length ≤ sizeLine then jsR fs (acc ++ y) sl hc1 else .bad
    | _ => .bad
def fsE (fs : List (Sl → Hc → Res D)) : Sl → Hc → Res D := fun sl hc => jsR fs Str.empty sl hc
section
variable {X : Cx} {g : Gx} {W : WX} {k : Nat} {e : Expr} {f : Sl → Hc → Res D} {pos : Pos}
theorem e_fmt (he : PE X e (tI g W f)) : PE X (.FormattedValue e (-1) none pos) (tI g W (unE fmtD f)) := by
  refine pe_imp (pe_fmt he) fun σ H Q ⟨z, sl, hc, hs, st, h⟩ => ?_
  refine tI.mono (OutE.thenE (f := f) hs st h) fun v H1 ⟨z1, d1, hc1, x1, hs1, st1, r1, o1⟩ => ?_
  obtain ⟨rr, er, hq⟩ := o1.lift
  cases r1 with
  | str y =>
    simp only [fmtD] at er
    split at er
    · rename_i hl
      cases er
      exact .inl ⟨y, rfl, hl, plain st1 hq (.str _)⟩
    · cases er
  | int i =>
    simp only [fmtD] at er
    split at er
    · rename_i hl
      cases er
      exact .inr ⟨i, rfl, hl, plain st1 hq (.str _)⟩
    · cases er
  | _ => cases er
theorem j_nil : PJ X [] (([] : List (Sl → Hc → Res D)).map (tI g W)) := .nil
theorem j_cons {es : List Expr} {fs : List (Sl → Hc → Res D)} (he : PE X e (tI g W f)) (r : PJ X es (fs.map (tI g W))) : PJ X (e :: es) ((f :: fs).map (tI g W)) := .cons he r
theorem js_read {σ : L2.St} {Q : VK} : ∀ {fs : List (Sl → Hc → Res D)} {acc : Str} {z : Fz} {sl : Sl} {hc : Hc} {H : Hp}, Sv g z sl σ → StR g z H hc → OutE g W z H σ (jsR fs acc sl hc) Q → tJs (fs.map (tI g W)) acc σ H fun out H1 => Q (.str out) H1
  | [], acc, z, sl, hc, H, hs, st, h => h z H _ (.refl z H) st (.str acc)
  | f :: fs, acc, z, sl, hc, H, hs, st, h => by
    refine tI.mono (OutE.thenE (f := f) hs st h) fun v H1 ⟨z1, d1, hc1, x1, hs1, st1, r1, o1⟩ => ?_
    cases r1 with
    | str y =>
      by_cases hl : (acc ++ y).length ≤ sizeLine
      · simp only [if_pos hl] at o1
        exact ⟨y, rfl, hl, js_read hs1 st1 o1⟩
      · simp only [if_neg hl] at o1
        exact o1.elim
    | _ => exact o1.elim
theorem e_fs {v1 v2 : Expr} {rest : List Expr} {fs : List (Sl → Hc → Res D)} (h : PJ X (v1 :: v2 :: rest) (fs.map (tI g W))) : PE X (.JoinedStr (v1 :: v2 :: rest) pos) (tI g W (fsE fs)) :=
  pe_imp (pe_joined h) fun σ H Q ⟨z, sl, hc, hs, st, h⟩ => js_read hs st h
theorem e_fs1 (he : PE X e (tI g W f)) : PE X (.JoinedStr [e] pos) (tI g W f) := pe_joined1 he
end
/-! ### str, min, int of a bool -/
def strD (_ : Hc) : List D → Option D
  | [.int i] => if i.natAbs.log2 < 1920 then some (.str (toString i)) else none
  | [.str x] => some (.str x)
  | _ => none
def minD (_ : Hc) : List D → Option D
  | [.int i, .int j] => some (.int (if j < i then j else i))
  | _ => none
def intB (_ : Hc) : List D → Option D
  | [.int i] => some (.int i)
  | [.bl b] => some (.int (if b then 1 else 0))
  | _ => none
section
variable {X : Cx} {g : Gx} {W : WX} {k : Nat}
theorem b_min (c : Ct X g W k) : CallR X (.builtin "min") (rA g minD) := by
  intro pins s σ H xs us Q I r ⟨z, hc, ds, rr, st, rd, er, q⟩
  cases rd with
  | nil => cases er
  | cons h t => cases t with
    | nil => cases h <;> cases er
    | cons h2 t2 => cases t2 with
      | cons _ _ => cases h <;> cases h2 <;> cases er
      | nil => cases h with
        | int i => cases h2 with
          | int j => cases er; exact call_min2 c.calm pins s σ H _ us Q I r ⟨i, j, rfl, plain st q (.int _)⟩
          | _ => cases er
        | _ => cases er
theorem b_intB : CallR X (.type "int") (rA g intB) := by
  intro pins s σ H xs us Q I r ⟨z, hc, ds, rr, st, rd, er, q⟩
  cases rd with
  | nil => cases er
  | cons h t => cases t with
    | cons _ _ => cases h <;> cases er
    | nil => cases h with
      | int i => cases er; exact call_int1 pins s σ H _ us Q I r (.inl ⟨i, rfl, plain st q (.int _)⟩)
      | bl i => cases er; exact call_int1 pins s σ H _ us Q I r (.inr ⟨i, rfl, plain st q (.int _)⟩)
      | _ => cases er
end
/-! ### methods that change a numbered list -/
def rMW (g : Gx) (op : Hc → D → List D → Option (D × Hc)) : V → List V → Hp → VK → Prop := fun x xs H Q => ∃ z hc d ds r hc', StR g z H hc ∧ RelD g z d x ∧ RelDs g z ds xs ∧ op hc d ds = some (r, hc') ∧ ∀ z' H' v, Ext z H z' H' → StR g z' H' hc' → RelD g z' r v → Q v H'
def isLoc (hc : Hc) : D → Bool
  | .loc n => (match hc.get n with
    | some (.lst _) => true
    | _ => false)
  | _ => false
def mtE (op : Hc → D → List D → Option (D × Hc)) (fo : Sl → Hc → Res D) (fs : Sl → Hc → Res (List D)) : Sl → Hc → Res D := fun sl hc => (fo sl hc).bind fun d hc1 => if isLoc hc1 d then (fs sl hc1).bind fun ds hc2 => match op hc2 d ds with
  | some (r, hc3) => .ok r hc3
  | none => .bad
  else .bad
def appD (hc : Hc) (d : D) (as : List D) : Option (D × Hc) := match d, as with
  | .loc n, [v] => (match hc.get n with
    | some (.lst ds) => if ds.length < sizeLine then some (.non, hc.set n (.lst (ds ++ [v]))) else none
    | _ => none)
  | _, _ => none
def popD (hc : Hc) (d : D) (as : List D) : Option (D × Hc) := match d, as with
  | .loc n, [.int i] => (match hc.get n with
    | some (.lst ds) => if decide (-(2 ^ 63) ≤ i) && decide (i < 2 ^ 63) then (seqIndex? i ds.length).bind fun k => (ds[k]?).map fun y => (y, hc.set n (.lst (ds.eraseIdx k))) else none
    | _ => none)
  | _, _ => none
theorem RelDs.eraseIdx {g : Gx} {z : Fz} : ∀ {ds : List D} {xs : List V} (i : Nat), RelDs g z ds xs → RelDs g z (ds.eraseIdx i) (xs.eraseIdx i)
  | _, _, _, .nil => .nil
  | _, _, 0, .cons _ t => t
  | _, _, i + 1, .cons r t => .cons r (RelDs.eraseIdx i t)
section
variable {X : Cx} {g : Gx} {W : WX} {k : Nat}
theorem m_app : MtR X "list.append" (rMW g appD) := by
  intro pins s σ H x xs v us Q I rx rs ⟨z, hc, d, ds, r, hc', st, rd, rds, e, q⟩
  cases rd with
  | @loc n a hr =>
    cases rds with
    | nil => cases e
    | cons h t => cases t with
      | cons _ _ => cases e
      | nil =>
        unfold appD at e
        cases hg : hc.get n with
        | none => simp only [hg] at e; cases e
        | some o =>
          cases o with
          | ins c fs => simp only [hg] at e; cases e
          | dct ks es => simp only [hg] at e; cases e
          | lst es =>
            simp only [hg] at e
            split at e
            · rename_i hl
              cases e
              obtain ⟨b, ys, eb, hr2, hH, ry⟩ := st.at hg (.loc hr)
              cases eb
              obtain ⟨xx, ss⟩ := st.write (o' := .lst (es ++ [_])) (u := .lst (ys ++ [_])) hg hr ⟨_, upd_same, ry.append (.cons h .nil)⟩
              exact mt_append pins s σ H _ _ v us Q I rx rs ⟨_, ys, _, rfl, rfl, hH, by rw [← ry.length]; exact hl, q _ _ _ xx ss .non⟩
            · cases e
  | _ => cases e
theorem m_pop : MtR X "list.pop" (rMW g popD) := by
  intro pins s σ H x xs v us Q I rx rs ⟨z, hc, d, ds, r, hc', st, rd, rds, e, q⟩
  cases rd with
  | @loc n a hr =>
    cases rds with
    | nil => cases e
    | cons h t => cases t with
      | cons _ _ => cases h <;> cases e
      | nil => cases h with
        | int i =>
          unfold popD at e
          cases hg : hc.get n with
          | none => simp only [hg] at e; cases e
          | some o =>
            cases o with
            | ins c fs => simp only [hg] at e; cases e
            | dct ks es => simp only [hg] at e; cases e
            | lst es =>
              simp only [hg] at e
              split at e
              · rename_i hl
                rw [Bool.and_eq_true, decide_eq_true_eq, decide_eq_true_eq] at hl
                obtain ⟨kx, e1, e2⟩ := Option.bind_eq_some_iff.mp e
                obtain ⟨y, e3, e4⟩ := Option.map_eq_some_iff.mp e2
                cases e4
                obtain ⟨b, ys, eb, hr2, hH, ry⟩ := st.at hg (.loc hr)
                cases eb
                obtain ⟨w, hw, rw'⟩ := ry.get e3
                obtain ⟨xx, ss⟩ := st.write (o' := .lst (es.eraseIdx kx)) (u := .lst (ys.eraseIdx kx)) hg hr ⟨_, upd_same, ry.eraseIdx kx⟩
                exact mt_popAt pins s σ H _ _ v us Q I rx rs ⟨_, ys, i, kx, w, rfl, rfl, hH, hl.1, hl.2, by rw [← ry.length]; exact e1, hw, q _ _ _ xx ss rw'⟩
              · cases e
        | _ => cases e
  | _ => cases e
variable {o e : Expr} {es : List Expr} {name : Str} {id : String} {op : Hc → D → List D → Option (D × Hc)} {fo : Sl → Hc → Res D} {fs : Sl → Hc → Res (List D)} {apos cpos : Pos}
theorem e_mt (slot : Slot "list" name id) (hty : typeOf (.builtin id) = pure (.type "method_descriptor")) (c : Ct X g W k) (hm : MtR X id (rMW g op)) (ho : PE X o (tI g W fo)) (ha : PA X (e :: es) (aI g W fs))
    (hbase : attributeBase o name X.env (eval o X.env) = eval o X.env := by rfl)
    (hfew : ((backTo cpos (starEach (e :: es) X.env)).all (fun x => !x.1) && (backToKw cpos (keywordEach [] X.env)).all (fun x => x.1.isSome)
      && decide ((e :: es).length + ([] : List Keyword).length + (if ([] : List Keyword).isEmpty then 0 else 1) < 30)) = true := by rfl)
    (hline : (apos.endLine == cpos.line) = true := by rfl) (hs : starEach (e :: es) X.env = (false, eval e X.env) :: starEach es X.env := by rfl) (hplain : (backTo cpos (starEach es X.env)).any (·.1) = false := by rfl) :
    PE X (.Call (.Attribute o name apos) (e :: es) [] cpos) (tI g W (mtE op fo fs)) := by
  refine pe_imp (pe_bm F.plainAttrs_list slot hty hm ho ha hbase hfew hline hs hplain) fun σ H Q ⟨z, sl, hc, hs, st, h⟩ => ?_
  refine tI.mono (OutE.thenE (f := fo) hs st h) fun v H1 ⟨z1, d1, hc1, x1, hs1, st1, r1, o1⟩ => ?_
  cases q : isLoc hc1 d1 with
  | false => simp only [q] at o1; exact o1.elim
  | true =>
    simp only [q, if_true] at o1
    refine ⟨?_, aI.mono (OutE.thenA (f := fs) hs1 st1 o1) fun vs H2 ⟨z2, ds, hc2, x2, hs2, st2, r2, o2⟩ => ?_⟩
    · cases r1 with
      | @loc n a hr =>
        unfold isLoc at q
        cases hg : hc1.get n with
        | none => simp only [hg] at q; cases q
        | some o =>
          cases o with
          | ins c fs => simp only [hg] at q; cases q
          | dct ks es => simp only [hg] at q; cases q
          | lst es =>
            obtain ⟨b, ys, eb, hr2, hH, ry⟩ := st1.at hg (.loc hr)
            cases eb
            exact .inl ⟨rfl, ys, SqL.of hH⟩
      | _ => cases q
    · cases e2 : op hc2 d1 ds with
      | none => rw [e2] at o2; exact o2.elim
      | some p =>
        obtain ⟨r, hc3⟩ := p
        rw [e2] at o2
        exact ⟨z2, hc2, d1, ds, r, hc3, st2, r1.mono x2.le, r2, e2, o2⟩
theorem e_app (c : Ct X g W k) (ho : PE X o (tI g W fo)) (ha : PA X [e] (aI g W fs))
    (hbase : attributeBase o "append" X.env (eval o X.env) = eval o X.env := by rfl)
    (hline : (apos.endLine == cpos.line) = true := by rfl) (hs : starEach [e] X.env = [(false, eval e X.env)] := by rfl) :
    PE X (.Call (.Attribute o "append" apos) [e] [] cpos) (tI g W (mtE appD fo fs)) :=
  e_mt F.slot_list_append F.type_list_append c m_app ho ha hbase (by rw [hs]; rfl) hline hs rfl
theorem e_pop (c : Ct X g W k) (ho : PE X o (tI g W fo)) (ha : PA X [e] (aI g W fs))
    (hbase : attributeBase o "pop" X.env (eval o X.env) = eval o X.env := by rfl)
    (hline : (apos.endLine == cpos.line) = true := by rfl) (hs : starEach [e] X.env = [(false, eval e X.env)] := by rfl) :
    PE X (.Call (.Attribute o "pop" apos) [e] [] cpos) (tI g W (mtE popD fo fs)) :=
  e_mt F.slot_list_pop F.type_list_pop c m_pop ho ha hbase (by rw [hs]; rfl) hline hs rfl
end
end Bo

set_option Elab.async false
set_option linter.all false
set_option maxRecDepth 100000
set_option maxHeartbeats 4000000
set_option autoImplicit false
/-! Bo18: match statements: values, names, sequences, alternatives of values, guards. -/
namespace Bo
open PySem PySem.Spec PyProof.Rows L2

abbrev Bs := List (Nat × D)
abbrev PMt := Hc → D → Option (Option Bs)
/-- what is asked of a name that a pattern binds -/
structure StOk (X : Cx) (i : Nat) (x : Str) : Prop where
  hi : X.N[i]? = some x
  hx : Loc X.env.scope x
  hf : X.fn x = true ∨ X.env.scope.names.lookup x = some .local
inductive BRel (X : Cx) (g : Gx) (z : Fz) : Bs → List (Str × Value) → Prop
  | nil : BRel X g z [] []
  | cons {i : Nat} {x : Str} {d : D} {v : V} {u : Value} {bs : Bs} {us : List (Str × Value)} : StOk X i x → RelD g z d v → RelV v u → BRel X g z bs us → BRel X g z ((i, d) :: bs) ((x, u) :: us)
theorem BRel.mono {X : Cx} {g : Gx} {z z' : Fz} (l : FLe z z') : ∀ {bs : Bs} {us : List (Str × Value)}, BRel X g z bs us → BRel X g z' bs us
  | _, _, .nil => .nil
  | _, _, .cons a b c t => .cons a (b.mono l) c (BRel.mono l t)
theorem BRel.append {X : Cx} {g : Gx} {z : Fz} : ∀ {bs cs : Bs} {us ws : List (Str × Value)}, BRel X g z bs us → BRel X g z cs ws → BRel X g z (bs ++ cs) (us ++ ws)
  | _, _, _, _, .nil, h => h
  | _, _, _, _, .cons a b c t, h => .cons a b c (BRel.append t h)
def ORel (X : Cx) (g : Gx) (z : Fz) : Option Bs → Option (List (Str × Value)) → Prop
  | none, none => True
  | some bs, some us => BRel X g z bs us
  | _, _ => False
structure PatR (X : Cx) (g : Gx) (p : Pattern) (f : PMt) : Prop where
  run : ∀ (pins : List (Addr × Obj)) (s : Shared) (σ : L2.St) (H : Hp) (z : Fz) (hc : Hc) (d : D) (v : V) (u : Value) (r : Option Bs) (Q : Option (List (Str × Value)) → Shared → Prop), Inv X pins σ H s → StR g z H hc → RelD g z d v → RelV v u → f hc d = some r →
    (∀ s' r' z' H', Inv X pins σ H' s' → Ext z H z' H' → StR g z' H' hc → ORel X g z' r r' → Q r' s') → wpAny (model X.prog X.w) X.A (matchPattern p X.env u) Q X.xe s
structure PatE (X : Cx) (g : Gx) (ps : List Pattern) (f : Hc → List D → Option (Option Bs)) : Prop where
  run : ∀ (pins : List (Addr × Obj)) (s : Shared) (σ : L2.St) (H : Hp) (z : Fz) (hc : Hc) (ds : List D) (vs : List V) (us : List Value) (r : Option Bs) (Q : Option (List (Str × Value)) → Shared → Prop), Inv X pins σ H s → StR g z H hc → RelDs g z ds vs → Vals vs us → f hc ds = some r →
    (∀ s' r' z' H', Inv X pins σ H' s' → Ext z H z' H' → StR g z' H' hc → ORel X g z' r r' → Q r' s') → wpAny (model X.prog X.w) X.A (matchEach ps X.env us) Q X.xe s
structure PatF (X : Cx) (g : Gx) (ps : List Pattern) (f : PMt) : Prop where
  run : ∀ (pins : List (Addr × Obj)) (s : Shared) (σ : L2.St) (H : Hp) (z : Fz) (hc : Hc) (d : D) (v : V) (u : Value) (r : Option Bs) (Q : Option (List (Str × Value)) → Shared → Prop), Inv X pins σ H s → StR g z H hc → RelD g z d v → RelV v u → f hc d = some r →
    (∀ s' r' z' H', Inv X pins σ H' s' → Ext z H z' H' → StR g z' H' hc → ORel X g z' r r' → Q r' s') → wpAny (model X.prog X.w) X.A (matchFirst ps X.env u) Q X.xe s
def valP (x : Str) : PMt := fun hc d => (eqD hc d (.str x)).map fun b => if b then some [] else none
def capP (i : Nat) : PMt := fun _ d => some (some [(i, d)])
def wildP : PMt := fun _ _ => some (some [])
def nilP : Hc → List D → Option (Option Bs)
  | _, [] => some (some [])
  | _, _ => none
def consP (f : PMt) (k : Hc → List D → Option (Option Bs)) : Hc → List D → Option (Option Bs)
  | hc, d :: ds => match f hc d with
    | none => none
    | some none => some none
    | some (some bs) => (k hc ds).map fun o => o.map (bs ++ ·)
  | _, [] => none
def seqP (n : Nat) (k : Hc → List D → Option (Option Bs)) : PMt := fun hc d => match d with
  | .tup ds => if ds.length = n then k hc ds else some none
  | .str _ | .int _ | .bl _ | .non | .dct _ _ => some none
  | d => (hc.lst? d).bind fun ds => if ds.length = n then k hc ds else some none
def noP : PMt := fun _ _ => some none
def orP (f k : PMt) : PMt := fun hc d => match f hc d with
  | none => none
  | some (some bs) => some (some bs)
  | some none => k hc d
section
variable {X : Cx} {g : Gx} {W : WX} {kk : Nat}
theorem m_val (c : Ct X g W kk) {x : Str} {n : Nat} {p pos : Pos} : PatR X g (.MatchValue (.Constant (.str x) n p) pos) (valP x) := by
  refine ⟨fun pins s σ H z hc d v u r Q I st rd rv e q => ?_⟩
  refine wpAny_matchPattern_Value (thn (pe_str.run pins s σ H (fun y H1 => y = .str x ∧ H1 = H) I ⟨rfl, rfl⟩) fun w s1 ⟨y, H1, I1, ry, ey, eH⟩ => ?_)
  subst ey eH
  obtain ⟨b, e1, e2⟩ := Option.map_eq_some_iff.mp e
  refine thn (o_eq c pins s1 σ H1 v (.str x) u w (fun y H2 => y = .bl b ∧ ∃ z', Ext z H1 z' H2 ∧ StR g z' H2 hc) I1 rv ry ⟨z, hc, d, .str x, .bl b, st, rd, .str x, by unfold eqO; rw [e1]; rfl, fun z' H' y xx ss ry => by cases ry; exact ⟨rfl, z', xx, ss⟩⟩) fun w2 s2 ⟨y, H2, I2, ry2, ey, z', xx, ss⟩ => ?_
  subst ey
  cases ry2
  refine wpAny_truthy_bool ?_
  cases b with
  | true =>
    subst e2
    exact q _ _ _ _ I2 xx ss .nil
  | false =>
    subst e2
    exact q _ _ _ _ I2 xx ss trivial
theorem m_cap (i : Nat) {x : Str} {pos : Pos} (h : StOk X i x) : PatR X g (.MatchAs none (some x) pos) (capP i) :=
  ⟨fun pins s σ H z hc d v u r Q I st rd rv e q => by
    cases e
    exact wpAny_matchPattern_Capture (q _ _ _ _ I (.refl _ _) st (.cons h rd rv .nil))⟩
theorem m_wild {pos : Pos} : PatR X g (.MatchAs none none pos) wildP :=
  ⟨fun pins s σ H z hc d v u r Q I st rd rv e q => by
    cases e
    exact wpAny_matchPattern_Capture (q _ _ _ _ I (.refl _ _) st .nil)⟩
theorem m_nil : PatE X g [] nilP :=
  ⟨fun pins s σ H z hc ds vs us r Q I st rd rv e q => by
    cases rd with
    | nil => cases e; exact wpAny_matchEach_nil (q _ _ _ _ I (.refl _ _) st .nil)
    | cons _ _ => cases e⟩
theorem m_cons {p : Pattern} {ps : List Pattern} {f : PMt} {k : Hc → List D → Option (Option Bs)} (h : PatR X g p f) (t : PatE X g ps k) (hp : p.isStar = false := by rfl) : PatE X g (p :: ps) (consP f k) := by
  refine ⟨fun pins s σ H z hc ds vs us r Q I st rd rv e q => ?_⟩
  cases rd with
  | nil => cases e
  | @cons d ds v vs rd rds =>
    cases rv with
    | @cons _ u _ us rv rvs =>
      simp only [consP] at e
      cases e1 : f hc d with
      | none => rw [e1] at e; cases e
      | some o =>
        rw [e1] at e
        refine wpAny_matchEach_cons (h.run pins s σ H z hc d v u o _ I st rd rv e1 fun s1 r1 z1 H1 I1 x1 st1 o1 => ?_) hp
        cases o with
        | none =>
          cases e
          cases r1 with
          | none => exact q _ _ _ _ I1 x1 st1 trivial
          | some us => exact o1.elim
        | some bs =>
          cases r1 with
          | none => exact o1.elim
          | some ws =>
            obtain ⟨o2, e2, rfl⟩ := Option.map_eq_some_iff.mp e
            refine t.run pins s1 σ H1 z1 hc ds vs us o2 _ I1 st1 (rds.mono x1.le) rvs e2 fun s2 r2 z2 H2 I2 x2 st2 oo => ?_
            cases o2 with
            | none => cases r2 with
              | none => exact q _ _ _ _ I2 (x1.trans x2) st2 trivial
              | some _ => exact oo.elim
            | some cs => cases r2 with
              | none => exact oo.elim
              | some ys => exact q _ _ _ _ I2 (x1.trans x2) st2 ((BRel.mono x2.le o1).append oo)
theorem m_fnil : PatF X g [] noP := ⟨fun pins s σ H z hc d v u r Q I st rd rv e q => by
  cases e
  exact wpAny_matchFirst_nil (q _ _ _ _ I (.refl _ _) st trivial)⟩
theorem m_fcons {p : Pattern} {ps : List Pattern} {f k : PMt} (h : PatR X g p f) (t : PatF X g ps k) : PatF X g (p :: ps) (orP f k) := by
  refine ⟨fun pins s σ H z hc d v u r Q I st rd rv e q => ?_⟩
  simp only [orP] at e
  cases e1 : f hc d with
  | none => rw [e1] at e; cases e
  | some o =>
    rw [e1] at e
    refine wpAny_matchFirst_cons (h.run pins s σ H z hc d v u o _ I st rd rv e1 fun s1 r1 z1 H1 I1 x1 st1 o1 => ?_)
    cases o with
    | some bs =>
      cases e
      cases r1 with
      | none => exact o1.elim
      | some us => exact q _ _ _ _ I1 x1 st1 o1
    | none =>
      cases r1 with
      | some us => exact o1.elim
      | none => exact t.run pins s1 σ H1 z1 hc d v u r Q I1 st1 (rd.mono x1.le) rv e fun s2 r2 z2 H2 I2 x2 st2 oo => q _ _ _ _ I2 (x1.trans x2) st2 oo
/-- alternatives that bind nothing -/
def altP (f : PMt) : PMt := fun hc d => (f hc d).map fun o => o.map fun _ => []
theorem m_or {ps : List Pattern} {f : PMt} {pos : Pos} (h : PatF X g ps f) (hn : namesOfAll (ps.take 1) = [] := by rfl) : PatR X g (.MatchOr ps pos) (altP f) := by
  refine ⟨fun pins s σ H z hc d v u r Q I st rd rv e q => ?_⟩
  obtain ⟨o, e1, rfl⟩ := Option.map_eq_some_iff.mp e
  refine wpAny_matchPattern_Or (h.run pins s σ H z hc d v u o _ I st rd rv e1 fun s1 r1 z1 H1 I1 x1 st1 o1 => ?_)
  cases o with
  | none => cases r1 with
    | none => exact q _ _ _ _ I1 x1 st1 trivial
    | some _ => exact o1.elim
  | some bs => cases r1 with
    | none => exact o1.elim
    | some us =>
      rw [hn]
      exact q _ _ _ _ I1 x1 st1 .nil
theorem m_seq (c : Ct X g W kk) {ps : List Pattern} {k : Hc → List D → Option (Option Bs)} {n : Nat} {pos : Pos} (h : PatE X g ps k) (hn : ps.length = n := by rfl) (hstar : ps.findIdx? (·.isStar) = none := by rfl)
    (hwild : (ps.all fun p => p.isWildcard || (p.isStar && p.names.isEmpty)) = false := by rfl) : PatR X g (.MatchSequence ps pos) (seqP n k) := by
  refine ⟨fun pins s σ H z hc d v u r Q I st rd rv e q => ?_⟩
  have big : ∀ {n : Nat}, n ≤ sizeLine → (n : Int) < 2 ^ 63 := fun h => by
    have := sizeLine_eq
    omega
  have miss : ∀ {T : String}, s.TypeIs u T → flagOfType true (.type T) = pure false → r = none → wpAny (model X.prog X.w) X.A (matchPattern (.MatchSequence ps pos) X.env u) Q X.xe s := fun hT hf er => by
    subst er
    exact wpAny_matchPattern_Sequence (wpAny_collectionFlag hT hf (q _ _ _ _ I (.refl _ _) st trivial)) hstar hwild
  have lists : ∀ (e : ((hc.lst? d).bind fun ds => if ds.length = n then k hc ds else some none) = some r), wpAny (model X.prog X.w) X.A (matchPattern (.MatchSequence ps pos) X.env u) Q X.xe s := fun e => by
    obtain ⟨ds, e1, e2⟩ := Option.bind_eq_some_iff.mp e
    obtain ⟨a, ys, rfl, hl, rl⟩ := st.list e1 rd
    rw [← c.hK] at hl
    obtain ⟨its, rvs, pl, hz⟩ := I.list hl
    cases rv
    have hsz : its.toArray.size = ds.length := by rw [List.size_toArray, ← rvs.length, rl.length]
    have hfit : (its.toArray.size : Int) < 2 ^ 63 := big (by rw [hsz, rl.length]; exact hz)
    by_cases hl2 : ds.length = n
    · rw [if_pos hl2] at e2
      have hps : its.toArray.size = ps.length := by rw [hsz, hl2, hn]
      refine matchSeq_list_hit pl.isList hfit hps ?_ hstar hwild
      rw [← hps]
      refine PySem.W.kun_itemsOf (s := { s with toks := s.toks + 1 + 1 }) (I.ok.hd c.calm) pl.isList fun h' hx => ?_
      have I1 : Inv X pins σ H { s with heap := h', toks := s.toks + 1 + 1 } := I.kept (t' := s.toks + 1 + 1) fun b o e => hx b o (Nat.ne_of_lt (Heap.lt_size e)) e
      exact h.run pins _ σ H z hc ds ys _ r Q I1 st rl (by simpa using rvs) e2 q
    · rw [if_neg hl2] at e2
      cases e2
      exact matchSeq_list_miss pl.isList hfit (by rw [hsz, hn]; exact hl2) (q _ _ _ _ (I.tok _) (.refl _ _) st trivial) hstar hwild
  cases rd with
  | tup h1 q1 =>
    rename_i a ys ds
    cases rv
    have h1' := SqT.mono st.sub h1
    rw [← c.hK] at h1'
    obtain ⟨its, rvs, ht, hz⟩ := I.tuple h1'
    have hsz : its.toArray.size = ds.length := by rw [List.size_toArray, ← rvs.length, q1.length]
    have hfit : (its.toArray.size : Int) < 2 ^ 63 := big (by rw [hsz, q1.length]; exact hz)
    have e' : (if ds.length = n then k hc ds else some none) = some r := e
    by_cases hl2 : ds.length = n
    · rw [if_pos hl2] at e'
      have hps : its.toArray.size = ps.length := by rw [hsz, hl2, hn]
      refine matchSeq_tuple_hit ht hfit hps ?_ hstar hwild
      rw [← hps]
      refine wpAny_unpackItems_tuple (s := { s with toks := s.toks + 1 + 1 }) (I.ok.hd c.calm) ht fun h' hx => ?_
      have I1 : Inv X pins σ H { s with heap := h', toks := s.toks + 1 + 1 } := I.kept (t' := s.toks + 1 + 1) fun b o e => hx b o (Nat.ne_of_lt (Heap.lt_size e)) e
      exact h.run pins _ σ H z hc ds ys _ r Q I1 st q1 (by simpa using rvs) e' q
    · rw [if_neg hl2] at e'
      cases e'
      exact matchSeq_tuple_miss ht hfit (by rw [hsz, hn]; exact hl2) (q _ _ _ _ (I.tok _) (.refl _ _) st trivial) hstar hwild
  | lst h1 q1 => exact lists e
  | kl h1 q1 => exact lists e
  | loc h1 => exact lists e
  | str x => cases e; obtain ⟨t, rfl⟩ := rv; exact miss (typeIs_str _ _ _) flag_seq_str rfl
  | int x => cases e; obtain ⟨t, rfl⟩ := rv; exact miss (typeIs_int _ _ _) flag_seq_int rfl
  | bl x => cases e; cases rv; exact miss (T := "bool") rfl flag_seq_bool rfl
  | non => cases e; cases rv; exact miss (T := "NoneType") rfl flag_seq_None rfl
  | dct h1 l1 q1 =>
    cases e
    cases rv
    obtain ⟨_, _, _, _, o, _, _, ho, hx, _⟩ := dk_of I.hok (st.sub _ _ h1)
    exact miss (T := "dict") ⟨o, ho, hx.1⟩ flag_seq_dict rfl
  | fn i => cases e
  | ty i => cases e
  | ex h => cases e
/-! ### the cases -/
abbrev CMt := D → Sl → Hc → RS
def bindAll (sl : Sl) : Bs → Sl
  | [] => sl
  | (i, d) :: bs => bindAll (sl.set i (some d)) bs
structure PC (X : Cx) (g : Gx) (W : WX) (cs : List MatchCase) (f : CMt) : Prop where
  run : ∀ (pins : List (Addr × Obj)) (s : Shared) (σ : L2.St) (H : Hp) (z : Fz) (sl : Sl) (hc : Hc) (d : D) (v : V) (u : Value) (first : Bool) (E : Ends), Inv X pins σ H s → Sv g z sl σ → StR g z H hc → RelD g z d v → RelV v u → OutS g W z H (f d sl hc) E →
    wpAny (model X.prog X.w) X.A (matchCases cs X.env u first) (SP X pins E) X.xe s
def endC : CMt := fun _ sl hc => .nx sl hc
def caseC (p : PMt) (tt : Sl → Hc → Res Bool) (fb : Sl → Hc → RS) (k : CMt) : CMt := fun d sl hc => match p hc d with
  | none => .bad
  | some none => k d sl hc
  | some (some bs) => (tt (bindAll sl bs) hc).toS (bindAll sl bs) fun b hc1 => if b then fb (bindAll sl bs) hc1 else k d (bindAll sl bs) hc1
theorem c_nil : PC X g W [] endC := ⟨fun pins s σ H z sl hc d v u first E I hs st rd rv o => wpAny_matchCases_nil ⟨σ, H, I, o z H σ (.refl _ _) hs st⟩⟩
theorem bind_all (hN : X.N.Nodup) {pins : List (Addr × Obj)} {H : Hp} {Q : Unit → Shared → Prop} : ∀ {bs : Bs} {us : List (Str × Value)} {s : Shared} {σ : L2.St} {z : Fz} {sl : Sl}, Inv X pins σ H s → Sv g z sl σ → BRel X g z bs us →
    (∀ s' σ', Inv X pins σ' H s' → Sv g z (bindAll sl bs) σ' → Q () s') → wpAny (model X.prog X.w) X.A (assignInOrder (us.map fun (n, _) => bindName X.env n) (us.map (·.2))) Q X.xe s
  | _, _, s, σ, z, sl, I, hs, .nil, q => wpAny_assignInOrder_none (q s σ I hs)
  | _, _, s, σ, z, sl, I, hs, .cons (i := i) (v := v) h rd rv t, q => wpAny_assignInOrder_more (wpAny_bindName (store_ok I hN h.hi h.hx rv (fun s' I' => bind_all hN I' (hs.set rd i) t q) h.hf))
theorem c_case {p : Pattern} {body : List Stmt} {rest : List MatchCase} {f : PMt} {fb : Sl → Hc → RS} {k : CMt} (hN : X.N.Nodup) (hp : PatR X g p f) (hb : PSs X body (sI g W fb)) (hr : PC X g W rest k) : PC X g W (⟨p, none, body⟩ :: rest) (caseC f yT fb k) := by
  refine ⟨fun pins s σ H z sl hc d v u first E I hs st rd rv o => ?_⟩
  simp only [caseC] at o
  cases e : f hc d with
  | none => rw [e] at o; exact o.elim
  | some r =>
    rw [e] at o
    refine wpAny_matchCases_cons (hp.run pins s σ H z hc d v u r _ I st rd rv e fun s1 r1 z1 H1 I1 x1 st1 o1 => ?_)
    cases r with
    | none => cases r1 with
      | none => exact hr.run pins s1 σ H1 z1 sl hc d v u false E I1 (hs.ext x1) st1 (rd.mono x1.le) rv (OutS.ext o x1)
      | some _ => exact o1.elim
    | some bs => cases r1 with
      | none => exact o1.elim
      | some us => exact bind_all hN I1 (hs.ext x1) o1 fun s2 σ2 I2 hs2 => hb.run pins s2 σ2 H1 E I2 ⟨z1, _, hc, hs2, st1, OutS.ext o x1⟩
theorem c_guard {p : Pattern} {ge : Expr} {body : List Stmt} {rest : List MatchCase} {f : PMt} {tt : Sl → Hc → Res Bool} {fb : Sl → Hc → RS} {k : CMt} (hN : X.N.Nodup) (hp : PatR X g p f) (ht : PT X ge (bI g W tt)) (hb : PSs X body (sI g W fb)) (hr : PC X g W rest k) : PC X g W (⟨p, some ge, body⟩ :: rest) (caseC f tt fb k) := by
  refine ⟨fun pins s σ H z sl hc d v u first E I hs st rd rv o => ?_⟩
  simp only [caseC] at o
  cases e : f hc d with
  | none => rw [e] at o; exact o.elim
  | some r =>
    rw [e] at o
    refine wpAny_matchCases_cons (hp.run pins s σ H z hc d v u r _ I st rd rv e fun s1 r1 z1 H1 I1 x1 st1 o1 => ?_)
    cases r with
    | none => cases r1 with
      | none => exact hr.run pins s1 σ H1 z1 sl hc d v u false E I1 (hs.ext x1) st1 (rd.mono x1.le) rv (OutS.ext o x1)
      | some _ => exact o1.elim
    | some bs => cases r1 with
      | none => exact o1.elim
      | some us =>
        refine bind_all hN I1 (hs.ext x1) o1 fun s2 σ2 I2 hs2 => ?_
        refine thn (ht.run pins s2 σ2 H1 _ I2 (OutS.thenT (f := tt) hs2 st1 (OutS.ext o x1))) fun b s3 ⟨H3, I3, z3, hc3, x3, hs3, st3, o3⟩ => ?_
        cases b with
        | true => exact hb.run pins s3 σ2 H3 E I3 ⟨z3, _, hc3, hs3, st3, o3⟩
        | false => exact hr.run pins s3 σ2 H3 z3 _ hc3 d v u false E I3 hs3 st3 ((rd.mono x1.le).mono x3.le) rv o3
def matS (fe : Sl → Hc → Res D) (k : CMt) : Sl → Hc → RS := fun sl hc => (fe sl hc).toS sl fun d hc1 => k d sl hc1
theorem s_match {e : Expr} {cs : List MatchCase} {pos : Pos} {fe : Sl → Hc → Res D} {k : CMt} (he : PE X e (tI g W fe)) (hc : PC X g W cs k) : PS X (.Match e cs pos) (sI g W (matS fe k)) := by
  refine ⟨fun pins s σ H E I ⟨z, sl, hc0, hs, st, o⟩ => ?_⟩
  refine wpAny_Match (thn (he.run pins s σ H _ I (OutS.thenE (f := fe) hs st o)) fun u s1 ⟨v, H1, I1, rv, z1, d, hc1, x1, hs1, st1, r1, o1⟩ => ?_)
  exact hc.run pins s1 σ H1 z1 sl hc1 d v u true E I1 hs1 st1 r1 rv o1
end
end Bo

set_option Elab.async false
set_option linter.all false
set_option maxRecDepth 100000
set_option maxHeartbeats 4000000
set_option autoImplicit false
/-! Bo19: list(..) as a numbered list, text * int, str(), a def that is not called (fuel 0). -/
namespace Bo
open PySem PySem.Spec PyProof.Rows L2

def nlE (fs : Sl → Hc → Res (List D)) : Sl → Hc → Res D := fun sl hc => (fs sl hc).bind fun as hc1 => match as with
  | [d] => (match seqOf hc1 d with
    | some ds => .ok (.loc hc1.next) (hc1.new (.lst ds))
    | none => .bad)
  | _ => .bad
section
variable {X : Cx} {g : Gx} {W : WX} {k : Nat} {a : Expr} {fs : Sl → Hc → Res (List D)} {p pos : Pos}
theorem e_nl (c : Ct X g W k) (hm : X.mg "list" = none) (ha : PA X [a] (aI g W fs)) (hg : Gl X "list" := by rfl) (he : starEach [a] X.env = [(false, eval a X.env)] := by rfl) :
    PE X (.Call (.Name "list" p) [a] [] pos) (tI g W (nlE fs)) := by
  refine pe_imp (pe_callTy (call_list_of (X := X)) hg hm (by decide +kernel) ha (by decide) (by decide) he rfl) fun σ H Q ⟨z, sl, hc, hs, st, h⟩ => ?_
  refine aI.mono (OutE.thenA (f := fs) hs st h) fun vs H1 ⟨z1, ds, hc1, x1, hs1, st1, r1, o1⟩ => ?_
  cases r1 with
  | nil => exact o1.elim
  | @cons d ds v vs r t => cases t with
    | cons _ _ => exact o1.elim
    | nil =>
      simp only at o1
      cases e : seqOf hc1 d with
      | none => rw [e] at o1; exact o1.elim
      | some es =>
        rw [e] at o1
        have lists : ∀ (e : hc1.lst? d = some es), ∃ p ys, [v] = [V.ref p] ∧ (SqL X.K H1 p ys ∨ SqT X.K H1 p ys) ∧ RelDs g z1 es ys := fun e => by
          obtain ⟨q, ys, rfl, hl, rl⟩ := st1.list e r
          exact ⟨q, ys, rfl, .inl (by rw [c.hK]; exact hl), rl⟩
        have tot : ∃ p ys, [v] = [V.ref p] ∧ (SqL X.K H1 p ys ∨ SqT X.K H1 p ys) ∧ RelDs g z1 es ys := by
          cases r with
          | tup h1 q1 => cases e; exact ⟨_, _, rfl, .inr (by rw [c.hK]; exact SqT.mono st1.sub h1), q1⟩
          | lst h1 q1 => exact lists e
          | kl h1 q1 => exact lists e
          | loc h1 => exact lists e
          | _ => cases e
        obtain ⟨q, ys, ev, hq, ry⟩ := tot
        refine ⟨q, ys, ev, hq, fun l hl => ?_⟩
        obtain ⟨z2, x2, s2, r2⟩ := st1.newLoc (o := .lst es) (u := .lst ys) hl fun z' le _ => ⟨ys, upd_same, ry.mono le⟩
        exact o1 _ _ _ x2 s2 (.loc r2)
/-! ### text * int -/
def mulX (hc : Hc) : D → D → Option D
  | .int i, .int j => mulD hc (.int i) (.int j)
  | .str x, .int n => if n = 0 then some (.str Str.empty) else if n = 1 then some (.str x) else none
  | _, _ => none
theorem o_mulX : OpR X (binaryOp .Mult) (rP g mulX) := by
  intro pins s σ H x y v u Q I rx ry ⟨z, hc, d, e, r, st, r1, r2, er, q⟩
  cases r1 with
  | int i => cases r2 with
    | int j => exact o_mul pins s σ H _ _ v u Q I rx ry ⟨z, hc, _, _, r, st, .int i, .int j, er, q⟩
    | _ => cases er
  | str t => cases r2 with
    | int n =>
      obtain ⟨tk, rfl⟩ := rx
      obtain ⟨tk2, rfl⟩ := ry
      simp only [mulX] at er
      split at er
      · rename_i hn
        cases er
        subst hn
        exact P.mul_str_none (by decide) (by decide) ⟨.str Str.empty, H, I.tok _, ⟨_, rfl⟩, plain st q (.str _)⟩
      · split at er
        · rename_i hn
          cases er
          subst hn
          refine P.mul_str (by decide) (fun _ h => absurd h (by simp)) (fun _ h => absurd h (by simp)) ?_
          rw [if_neg (by decide), if_pos (by simp)]
          exact ⟨.str t, H, I, ⟨_, rfl⟩, plain st q (.str _)⟩
        · cases er
    | _ => cases er
  | _ => cases er
/-! ### str(x) -/
def strI (_ : Hc) : List D → Option D
  | [.int i] => if i.natAbs.log2 < 1920 then some (.str (toString i)) else none
  | _ => none
theorem b_strI : CallR X (.type "str") (rA g strI) := by
  intro pins s σ H xs us Q I r ⟨z, hc, ds, rr, st, rd, er, q⟩
  cases rd with
  | nil => cases er
  | cons h t => cases t with
    | cons _ _ => cases h <;> cases er
    | nil => cases h with
      | int i =>
        simp only [strI] at er
        split at er
        · rename_i hl
          cases er
          exact call_str_int pins s σ H _ us Q I r ⟨i, rfl, hl, plain st q (.str _)⟩
        · cases er
      | _ => cases er
end
section
variable {P : Program} {w : World} {K : PySem.W.Frag} {mg : Str → Option Value} {base : Heap} {g : Gx} {k : Nat} {x : Str} {s : Stmt} {ps : List Str}
def badC : List D → Hc → Res D := fun _ _ => .bad
theorem FnT.bad (F : TopD K mg x s)
    (hbn : ∀ (kV doc pm : Value) (an : Option Addr) (cdv ct : Value) (us : List Value), us.length = ps.length → bindArgs (PySem.W.fnOf x x (defArgs s) (defBody s) (defScope s) .none kV doc pm an cdv ct) ⟨us, []⟩ = pure (ps.zip us)) :
    FnT P w K mg base g k x badC := by
  obtain ⟨f, fd, F, hm⟩ := F
  exact ⟨f, fd, ps, ⟨fun _ _ => .inl rfl, fun _ _ _ _ _ _ _ _ _ _ _ _ _ _ _ _ _ _ _ o => o.elim⟩, F.bindsN hbn, hm, F.kp⟩
end
end Bo

set_option Elab.async false
set_option linter.all false
set_option maxRecDepth 100000
set_option maxHeartbeats 4000000
set_option autoImplicit false
/-! Bo20: a, b = x, y and a, b, c = x, y, z with plain local names. -/
namespace Bo
open PySem PySem.Spec PyProof.Rows L2
section
variable {X : Cx} {g : Gx} {W : WX} {kk : Nat} {a b c : Expr} {fs : Sl → Hc → Res (List D)} {x y w : Str} {px py pw pt pos pt2 : Pos} {kt k2 : Nat}
theorem s_par2 (i j : Nat) (ct : Ct X g W kk) (hN : X.N.Nodup) (ha : PA X [a, b] (aI g W fs)) (hi : X.N[i]? = some x := by rfl) (hj : X.N[j]? = some y := by rfl) (hij : i ≠ j := by decide)
    (hx : X.env.scope.names.lookup x = some .local := by rfl) (hy : X.env.scope.names.lookup y = some .local := by rfl)
    (hw : swappedStores [.Tuple [.Name x px, .Name y py] kt pt] (.Tuple [a, b] k2 pt2) X.env = pure (some [x, y]) := by rfl)
    (hs : swapsWithSole [.Tuple [.Name x px, .Name y py] kt pt] (.Tuple [a, b] k2 pt2) pos.line X.env = pure false := by rfl) :
    PS X (.Assign [.Tuple [.Name x px, .Name y py] kt pt] (.Tuple [a, b] k2 pt2) pos) (sI g W (asG (tupG 2 (consG (nmG i) (consG (nmG j) nilG))) (tupE fs))) := by
  refine ps_imp (ps_par ct.calm hN hi hj hij hx hy ha hw hs) fun E σ H ⟨z, sl, hc, hsv, st, h⟩ => ?_
  refine ⟨z, sl, hc, hsv, st, ?_⟩
  unfold asG tupE at h
  cases e : fs sl hc with
  | bad => rw [e] at h; exact h.elim
  | exc c hc1 => rw [e] at h; exact fun z' H' xx ss => h z' H' σ xx (hsv.ext xx) ss
  | ok ds hc1 =>
    rw [e] at h
    intro z' H' vs xx ss rd
    simp only [Res.bind] at h
    split at h
    · simp only [Res.toS] at h
      cases rd with
      | nil => exact h.elim
      | cons r1 t => cases t with
        | nil => exact h.elim
        | cons r2 t2 => cases t2 with
          | cons _ _ => exact h.elim
          | nil => exact ⟨_, _, rfl, h z' H' _ xx (((hsv.ext xx).set r1 i).set r2 j) ss⟩
    · exact h.elim
theorem s_par3 (i j l : Nat) (ct : Ct X g W kk) (hN : X.N.Nodup) (ha : PA X [a, b, c] (aI g W fs)) (hi : X.N[i]? = some x := by rfl) (hj : X.N[j]? = some y := by rfl) (hl : X.N[l]? = some w := by rfl) (hij : i ≠ j := by decide) (hil : i ≠ l := by decide) (hjl : j ≠ l := by decide)
    (hx : X.env.scope.names.lookup x = some .local := by rfl) (hy : X.env.scope.names.lookup y = some .local := by rfl) (hz : X.env.scope.names.lookup w = some .local := by rfl)
    (hw : swappedStores [.Tuple [.Name x px, .Name y py, .Name w pw] kt pt] (.Tuple [a, b, c] k2 pt2) X.env = pure (some [x, y, w]) := by rfl)
    (hs : swapsWithSole [.Tuple [.Name x px, .Name y py, .Name w pw] kt pt] (.Tuple [a, b, c] k2 pt2) pos.line X.env = pure false := by rfl) :
    PS X (.Assign [.Tuple [.Name x px, .Name y py, .Name w pw] kt pt] (.Tuple [a, b, c] k2 pt2) pos) (sI g W (asG (tupG 3 (consG (nmG i) (consG (nmG j) (consG (nmG l) nilG)))) (tupE fs))) := by
  refine ps_imp (ps_par3 ct.calm hN hi hj hl hij hil hjl hx hy hz ha hw hs) fun E σ H ⟨z, sl, hc, hsv, st, h⟩ => ?_
  refine ⟨z, sl, hc, hsv, st, ?_⟩
  unfold asG tupE at h
  cases e : fs sl hc with
  | bad => rw [e] at h; exact h.elim
  | exc c hc1 => rw [e] at h; exact fun z' H' xx ss => h z' H' σ xx (hsv.ext xx) ss
  | ok ds hc1 =>
    rw [e] at h
    intro z' H' vs xx ss rd
    simp only [Res.bind] at h
    split at h
    · simp only [Res.toS] at h
      cases rd with
      | nil => exact h.elim
      | cons r1 t => cases t with
        | nil => exact h.elim
        | cons r2 t2 => cases t2 with
          | nil => exact h.elim
          | cons r3 t3 => cases t3 with
            | cons _ _ => exact h.elim
            | nil => exact ⟨_, _, _, rfl, h z' H' _ xx ((((hsv.ext xx).set r1 i).set r2 j).set r3 l) ss⟩
    · exact h.elim
end
end Bo

set_option Elab.async false
set_option linter.all false
set_option maxRecDepth 100000
set_option maxHeartbeats 4000000
set_option autoImplicit false
/-! Bo21: step lemmas of the denotations, texts one behind the other, what repr shows. Plain mathematics. -/
namespace Bo
open PySem PySem.Spec PyProof.Rows L2
/-! ### steps -/
section
variable {sl sl' : Sl} {hc hc1 hc2 hc3 : Hc} {d a b c : D} {ds as : List D} {f k h : Sl → Hc → Res D} {fs : Sl → Hc → Res (List D)} {F G : Sl → Hc → RS} {t u : Sl → Hc → Res Bool} {r : RS}
theorem seqN (e : F sl hc = .nx sl' hc1) : seqS F G sl hc = G sl' hc1 := by
  unfold seqS
  rw [e]
theorem seqR (e : F sl hc = .rt d hc1) : seqS F G sl hc = .rt d hc1 := by
  unfold seqS
  rw [e]
theorem ifY (e : t sl hc = .ok true hc1) (e2 : F sl hc1 = r) : ifS t F G sl hc = r := by
  unfold ifS
  rw [e]
  exact e2
theorem ifN (e : t sl hc = .ok false hc1) (e2 : G sl hc1 = r) : ifS t F G sl hc = r := by
  unfold ifS
  rw [e]
  exact e2
theorem retO (e : f sl hc = .ok d hc1) : retS f sl hc = .rt d hc1 := by
  unfold retS
  rw [e]
  rfl
theorem asgO {i : Nat} (e : f sl hc = .ok d hc1) : asgS i f sl hc = .nx (sl.set i (some d)) hc1 := by
  unfold asgS
  rw [e]
  rfl
theorem exO (e : f sl hc = .ok d hc1) : exS f sl hc = .nx sl hc1 := by
  unfold exS
  rw [e]
  rfl
theorem asgG {ft : D → Sl → Option Sl} (e : f sl hc = .ok d hc1) (e2 : ft d sl = some sl') : asG ft f sl hc = .nx sl' hc1 := by
  unfold asG
  rw [e]
  simp only [Res.toS, e2]
theorem forO {ft : D → Sl → Option Sl} {fi : Sl → Hc → Res (List D)} (e : fi sl hc = .ok ds hc1) (e2 : loopS ft F ds sl hc1 = r) : forS ft fi F sl hc = r := by
  unfold forS
  rw [e]
  exact e2
theorem loopNil {ft : D → Sl → Option Sl} : loopS ft F [] sl hc = .nx sl hc := rfl
theorem loopCons {ft : D → Sl → Option Sl} {sl1 : Sl} (e : ft d sl = some sl1) (e2 : F sl1 hc = .nx sl' hc1) : loopS ft F (d :: ds) sl hc = loopS ft F ds sl' hc1 := by
  rw [loopS, e]
  simp only [e2]
theorem opO {op : Hc → D → D → Option D} (e1 : f sl hc = .ok a hc1) (e2 : k sl hc1 = .ok b hc2) (e : op hc2 a b = some c) : opE op f k sl hc = .ok c hc2 := by
  unfold opE
  rw [e1]
  simp only [Res.bind, e2, e, lift]
theorem unO {op : Hc → D → Option D} (e1 : f sl hc = .ok a hc1) (e : op hc1 a = some c) : unE op f sl hc = .ok c hc1 := by
  unfold unE
  rw [e1]
  simp only [Res.bind, e, lift]
theorem blO {op : Hc → List D → Option D} (e1 : fs sl hc = .ok as hc1) (e : op hc1 as = some c) : blE op fs sl hc = .ok c hc1 := by
  unfold blE
  rw [e1]
  simp only [Res.bind, e, lift]
theorem kO (e1 : f sl hc = .ok a hc1) (e2 : fs sl hc1 = .ok as hc2) : kA f fs sl hc = .ok (a :: as) hc2 := by
  unfold kA
  rw [e1]
  simp only [Res.bind, e2]
theorem k1 (e1 : f sl hc = .ok a hc1) : kA f nA sl hc = .ok [a] hc1 := kO e1 rfl
theorem callO {cl : List D → Hc → Res D} {q : Res D} (e1 : fs sl hc = .ok as hc1) (e : cl as hc1 = q) : callE cl fs sl hc = q := by
  unfold callE
  rw [e1]
  exact e
theorem tupO (e1 : fs sl hc = .ok as hc1) (e : as.length ≤ 1000) : tupE fs sl hc = .ok (.tup as) hc1 := by
  unfold tupE
  rw [e1]
  have : as.length ≤ sizeLine := by rw [sizeLine_eq]; omega
  simp only [Res.bind, if_pos this]
theorem lstO (e1 : fs sl hc = .ok as hc1) (e : as.length ≤ 1000) : lstE fs sl hc = .ok (.lst as) hc1 := by
  unfold lstE
  rw [e1]
  have : as.length ≤ sizeLine := by rw [sizeLine_eq]; omega
  simp only [Res.bind, if_pos this]
theorem newO (e1 : fs sl hc = .ok as hc1) (e : as.length ≤ 1000) : newE fs sl hc = .ok (.loc hc1.next) (hc1.new (.lst as)) := by
  unfold newE
  rw [e1]
  have : as.length ≤ sizeLine := by rw [sizeLine_eq]; omega
  simp only [Res.bind, if_pos this]
theorem bO {b : Bool} (e1 : f sl hc = .ok (.bl b) hc1) : bT f sl hc = .ok b hc1 := by
  unfold bT
  rw [e1]
  rfl
theorem nTO {b : Bool} (e1 : t sl hc = .ok b hc1) : nT t sl hc = .ok (!b) hc1 := by
  unfold nT
  rw [e1]
  rfl
theorem andF (e1 : t sl hc = .ok false hc1) : andT t u sl hc = .ok false hc1 := by
  unfold andT
  rw [e1]
  rfl
theorem andY {q : Res Bool} (e1 : t sl hc = .ok true hc1) (e2 : u sl hc1 = q) : andT t u sl hc = q := by
  unfold andT
  rw [e1]
  exact e2
theorem ifeY {q : Res D} (e1 : t sl hc = .ok true hc1) (e2 : f sl hc1 = q) : ifE t f k sl hc = q := by
  unfold ifE
  rw [e1]
  exact e2
theorem ifeN {q : Res D} (e1 : t sl hc = .ok false hc1) (e2 : k sl hc1 = q) : ifE t f k sl hc = q := by
  unfold ifE
  rw [e1]
  exact e2
theorem itO {it : Hc → D → Option (List D)} (e1 : f sl hc = .ok d hc1) (e : it hc1 d = some ds) : itE it f sl hc = .ok ds hc1 := by
  unfold itE
  rw [e1]
  simp only [Res.bind, e]
theorem lcO {vs : List Nat} {ft : D → Sl → Option Sl} {fi : Sl → Hc → Res (List D)} (e1 : fi sl hc = .ok ds hc1) (m : mapC ft t f (wipeS sl vs) ds hc1 = .ok as hc2) (hz : as.length ≤ 1000) : lcE vs ft fi t f sl hc = .ok (.lst as) hc2 := by
  unfold lcE
  rw [e1]
  have : as.length ≤ sizeLine := by rw [sizeLine_eq]; omega
  simp only [Res.bind, m, if_pos this]
theorem slO {fl fh : Sl → Hc → Res (Option Int)} {lo hi : Option Int} (h1 : f sl hc = .ok d hc1) (h2 : fl sl hc1 = .ok lo hc2) (h3 : fh sl hc2 = .ok hi hc3) (h4 : slD hc3 d lo hi = some a) : slE f fl fh sl hc = .ok a hc3 := by
  unfold slE
  rw [h1]
  simp only [Res.bind, h2, h3, h4, lift]
theorem sOO {i : Int} (h : f sl hc = .ok (.int i) hc1) : sO f sl hc = .ok (some i) hc1 := by
  unfold sO
  rw [h]
  rfl
theorem vO {i : Nat} (e : sl[i]? = some (some d)) : vE i sl hc = .ok d hc := by
  unfold vE
  rw [e]
theorem jO {x : Str} (e1 : f sl hc = .ok (.str x) hc1) (e2 : k sl hc1 = .ok d hc2) (e : joinD hc2 x d = some a) : joinE f k sl hc = .ok a hc2 := by
  unfold joinE
  rw [e1]
  simp only [Res.bind, e2, e, lift]
theorem mtO {op : Hc → D → List D → Option (D × Hc)} (e1 : f sl hc = .ok d hc1) (e : isLoc hc1 d = true) (e2 : fs sl hc1 = .ok as hc2) (e3 : op hc2 d as = some (a, hc3)) : mtE op f fs sl hc = .ok a hc3 := by
  unfold mtE
  rw [e1]
  simp only [Res.bind, e, if_true, e2, e3]
theorem nlO (e1 : fs sl hc = .ok [d] hc1) (e : seqOf hc1 d = some ds) : nlE fs sl hc = .ok (.loc hc1.next) (hc1.new (.lst ds)) := by
  unfold nlE
  rw [e1]
  simp only [Res.bind, e]
theorem matO {m : CMt} (e1 : f sl hc = .ok d hc1) (e2 : m d sl hc1 = r) : matS f m sl hc = r := by
  unfold matS
  rw [e1]
  exact e2
theorem fnO {np n : Nat} (hl : ds.length = np) (e : F (startS n ds) hc = .rt d hc1) : fnR np n F ds hc = .ok d hc1 := by
  unfold fnR
  rw [if_pos hl, e]
end
/-! ### texts -/
theorem str_eq {x y : Str} (h : x.cps.toList = y.cps.toList) : x = y := PySem.W.str_of_cps h
theorem app_list (x y : Str) : (x ++ y).cps.toList = x.cps.toList ++ y.cps.toList := by
  show (x.cps ++ y.cps).toList = _
  simp
theorem empty_app (x : Str) : Str.empty ++ x = x := str_eq (by rw [app_list]; rfl)
theorem app_empty (x : Str) : x ++ Str.empty = x := str_eq (by rw [app_list]; show _ ++ [] = _; simp)
theorem app_assoc (x y z : Str) : x ++ y ++ z = x ++ (y ++ z) := str_eq (by simp only [app_list, List.append_assoc])
theorem app_len (x y : Str) : (x ++ y).length = x.length + y.length := by
  show (x.cps ++ y.cps).size = _
  simp [Str.length]
theorem add_str {hc : Hc} {x y : Str} (h : x.length + y.length ≤ 1000000) : addD hc (.str x) (.str y) = some (.str (x ++ y)) := by
  have : x.length + y.length ≤ sizeLine := by rw [sizeLine_eq]; omega
  simp only [addD, if_pos this]
theorem fmt_str {hc : Hc} {x : Str} (h : x.length ≤ 1000000) : fmtD hc (.str x) = some (.str x) := by
  have : x.length ≤ sizeLine := by rw [sizeLine_eq]; omega
  simp only [fmtD, if_pos this]
/-- the parts of an f-string -/
theorem jsN {acc : Str} {sl : Sl} {hc : Hc} : jsR [] acc sl hc = .ok (.str acc) hc := rfl
theorem jsC {f : Sl → Hc → Res D} {fs : List (Sl → Hc → Res D)} {acc y : Str} {sl : Sl} {hc hc1 : Hc} {q : Res D} (e : f sl hc = .ok (.str y) hc1) (hl : acc.length + y.length ≤ 1000000) (e2 : jsR fs (acc ++ y) sl hc1 = q) : jsR (f :: fs) acc sl hc = q := by
  have : (acc ++ y).length ≤ sizeLine := by rw [app_len, sizeLine_eq]; omega
  rw [jsR, e]
  simp only [Res.bind, if_pos this]
  exact e2
/-- a list of texts joined -/
theorem joinLen (sep : Str) : ∀ ys : List Str, (Str.join sep ys).length ≤ (ys.map (·.length)).sum + ys.length * sep.length := fun ys => by
  have := PySem.StrLaws.join_length_le sep ys
  omega
theorem strsOf_map : ∀ ys : List Str, strsOf (ys.map D.str) = some ys
  | [] => rfl
  | y :: ys => by simp only [List.map_cons, strsOf, strsOf_map ys, Option.map_some]
theorem join_lst {hc : Hc} {sep : Str} {ys : List Str} (h : (ys.map (·.length)).sum + ys.length * sep.length ≤ 16777216) : joinD hc sep (.lst (ys.map D.str)) = some (.str (Str.join sep ys)) := by
  unfold joinD
  have e : seqOf hc (.lst (ys.map D.str)) = some (ys.map D.str) := rfl
  rw [e, Option.bind_some, strsOf_map, Option.bind_some, if_pos h, TL.join_eq]
/-! ### what repr shows -/
structure Fit (k w : Nat) (d : D) : Prop where
  ex : ∃ p, toPy d = some p ∧ p.showable = true ∧ p.leavesShort 50 = true ∧ p.weight ≤ w ∧ p.depth ≤ k ∧ p.canLay0 = true
theorem Fit.mono {k w k' w' : Nat} {d : D} (h : Fit k w d) (h1 : k ≤ k') (h2 : w ≤ w') : Fit k' w' d := by
  obtain ⟨p, a, b, c, e, f, l⟩ := h.ex
  exact ⟨p, a, b, c, by omega, by omega, l⟩
theorem fit_str {x : Str} (h : Wd x) : Fit 0 40 (.str x) := ⟨.str x, rfl, by simp [PyData.showable], h.short, h.weight, by simp [PyData.depth], by simp only [PyData.canLay0, h.ok]⟩
theorem fit_non : Fit 0 0 .non := ⟨.none, rfl, by simp [PyData.showable], by simp [PyData.leavesShort], by simp [PyData.weight], by simp [PyData.depth], by simp [PyData.canLay0]⟩
theorem fit_bl (b : Bool) : Fit 0 0 (.bl b) := ⟨.bool b, rfl, by simp [PyData.showable], by simp [PyData.leavesShort], by simp [PyData.weight], by simp [PyData.depth], by simp [PyData.canLay0]⟩
theorem fit_all {k w : Nat} : ∀ {ds : List D} (_ : ∀ d ∈ ds, Fit k w d), ∃ ps, toPys ds = some ps ∧ PyData.showableAll ps = true ∧ PyData.leavesShortAll 50 ps = true ∧ PyData.weightAll ps ≤ (w + 1) * ds.length ∧ PyData.depthAll ps ≤ k ∧ PyData.canLayAll0 ps = true
  | [], _ => ⟨[], rfl, by simp [PyData.showableAll], by simp [PyData.leavesShortAll], by simp [PyData.weightAll], by simp [PyData.depthAll], by simp [PyData.canLayAll0]⟩
  | d :: ds, h => by
    obtain ⟨p, a, b, c, e, f, l⟩ := (h d List.mem_cons_self).ex
    obtain ⟨ps, a', b', c', e', f', l'⟩ := fit_all fun z hz => h z (List.mem_cons_of_mem _ hz)
    refine ⟨p :: ps, by simp only [toPys, a, a', Option.bind_some, Option.map_some], by simp only [PyData.showableAll, b, b', Bool.and_self], by simp only [PyData.leavesShortAll, c, c', Bool.and_self], ?_, ?_, by simp only [PyData.canLayAll0, l, l', Bool.and_self]⟩
    · rw [PyData.weightAll, List.length_cons, Nat.mul_succ]
      omega
    · rw [PyData.depthAll]
      exact Nat.max_le.mpr ⟨f, f'⟩
theorem fit_tup {k w : Nat} {ds : List D} (h : ∀ d ∈ ds, Fit k w d) : Fit (k + 1) ((w + 1) * ds.length) (.tup ds) := by
  obtain ⟨ps, a, b, c, e, f, l⟩ := fit_all h
  refine ⟨.tuple ps, by simp only [toPy, a, Option.map_some], by simp only [PyData.showable, b], by simp only [PyData.leavesShort, c], ?_, ?_, by simp only [PyData.canLay0, l]⟩
  · rw [PyData.weight]; exact e
  · rw [PyData.depth]; omega
theorem Fit.repr {k w : Nat} {d : D} {hc : Hc} (h : Fit k w d) (hk : k ≤ 64) (hw : w ≤ 100000) (hd : ∀ n, d ≠ .loc n) (hd2 : ∀ a b, d ≠ .dct a b) : ∃ y, reprD hc d = some (.str y) := by
  obtain ⟨p, a, b, c, e, f, l⟩ := h.ex
  have t : toPyR hc d = some p := by
    cases d with
    | dct x y => exact absurd rfl (hd2 x y)
    | loc n => exact absurd rfl (hd n)
    | _ => exact a
  have ff : fitsR p = true := fits_of b c (by omega) (by omega)
  exact ⟨_, by unfold reprD; rw [t, Option.bind_some, if_pos ff]⟩
/-- t != () -/
theorem ne_unit {k w : Nat} {ds : List D} {hc : Hc} (h : ∀ d ∈ ds, Fit k w d) (hk : k < 64) : neO hc (.tup ds) (.tup []) = some (.bl (!ds.isEmpty)) := by
  obtain ⟨p, a, b, c, e, f, l⟩ := (fit_tup h).ex
  obtain ⟨ps, a2, _⟩ := fit_all h
  have ep : p = .tuple ps := by
    simp only [toPy, a2, Option.map_some, Option.some.injEq] at a
    exact a.symm
  have s1 : SeqAt.shaped p = true := by
    unfold SeqAt.shaped
    rw [Bool.and_eq_true]
    exact ⟨l, decide_eq_true (by omega)⟩
  have s2 : SeqAt.shaped (.tuple []) = true := by decide
  have ee : eqD hc (.tup ds) (.tup []) = some ds.isEmpty := by
    show (match toPy1 hc (.tup ds), toPy1 hc (.tup []) with
      | some p, some q => if SeqAt.shaped p && SeqAt.shaped q then some (PyData.eqv p q) else none
      | _, _ => none) = _
    have t1 : toPy1 hc (.tup ds) = some p := a
    have t2 : toPy1 hc (.tup []) = some (.tuple []) := rfl
    rw [t1, t2]
    simp only [s1, s2, Bool.and_self, if_true]
    subst ep
    cases ds with
    | nil =>
      simp only [toPys, Option.some.injEq] at a2
      subst a2
      simp [PyData.eqv, PyData.eqvAll]
    | cons d ds =>
      simp only [toPys, Option.bind_eq_some_iff, Option.map_eq_some_iff] at a2
      obtain ⟨x, _, xs, _, rfl⟩ := a2
      simp [PyData.eqv, PyData.eqvAll]
  unfold neO
  rw [ee]
  rfl
end Bo

set_option Elab.async false
set_option linter.all false
set_option maxRecDepth 100000
set_option maxHeartbeats 4000000
set_option autoImplicit false
/-! Bo22: promises by position, instances, fields, methods, making, star parameters. -/
namespace Bo
open PySem PySem.Spec L2

/-- what stands at f does what cl says, called by position with room for k -/
structure FnV (P : Program) (w : World) (K : PySem.W.Frag) (mg : Str → Option Value) (base : Heap) (g : Gx) (k : Nat) (f : Addr) (cl : List D → Hc → Res D) : Prop where
  run : ∀ (A : Around) (outer : List Env) (s : Shared) (H : Hp) (us : List Value) (vs : List V) (z : Fz) (hc : Hc) (ds : List D) (Q : VK) (E : XK), Room k A → A.guards = some [] → Env0 P w K mg base A outer s H → Vals vs us →
    StR g z H hc → RelDs g z ds vs → OutC g z H (cl ds hc) Q E → codeAny (model P w) A (.call (.ref f) ⟨us, []⟩) (CR (L2.CX P w) outer P w H s Q E) s
section
variable {P : Program} {w : World} {K : PySem.W.Frag} {mg : Str → Option Value} {base : Heap} {g : Gx} {j k : Nat} {f : Addr} {fd : FuncData} {ps N : List Str} {cl : List D → Hc → Res D}
theorem FnI.v (F : FnI P w K mg base g k f fd ps cl) (hb : Binds K fd ps []) : FnV P w K mg base g k f cl := ⟨fun A outer s H us vs z hc ds Q E hr hgd e0 rv st rd o => by
  have hl : us.length = ps.length := by
    rcases F.len ds hc with e | e
    · rw [e] at o; exact o.elim
    · rw [← rv.length, ← rd.length]; exact e
  have inK : K.In s.heap := e0.mod.kin.keeps fun b o e => (e0.bs b o e).1
  have bb := hb s us inK (by rw [List.append_nil]; exact hl)
  rw [List.append_nil] at bb
  exact F.run A outer s H ⟨us, []⟩ us vs z hc ds Q E hr hgd e0 bb rv st rd o⟩
theorem FnV.mono (F : FnV P w K mg base g j f cl) (h : j ≤ k) : FnV P w K mg base g k f cl := ⟨fun A outer s H us vs z hc ds Q E hr => F.run A outer s H us vs z hc ds Q E (hr.mono h)⟩
/-- no fuel: nothing is promised -/
theorem FnV.bad : FnV P w K mg base g k f badC := ⟨fun A outer s H us vs z hc ds Q E hr hgd e0 rv st rd o => o.elim⟩
/-- def f(a, .., *v) -/
def fnStar (np n : Nat) (body : Sl → Hc → RS) : List D → Hc → Res D := fun ds hc => if np ≤ ds.length ∧ ds.length ≤ sizeLine then (match body (startS n (ds.take np ++ [.tup (ds.drop np)])) hc with
  | .rt d h => .ok d h
  | .nx _ h => .ok .non h
  | .exc c _ h => .exc c h
  | _ => .bad) else .bad
theorem FnV.star {x qual pv : Str} {params : Arguments} {body : List Stmt} {scope : Scope} {fb : Sl → Hc → RS} (F : FunD K x qual params body scope [] [] f fd) (S : FnScope N (ps ++ [pv]) scope) (hgK : K = g.K)
    (hbind : ∀ (kV doc pm : Value) (an : Option Addr) (cdv ct : Value) (us rest : List Value), us.length = ps.length → bindArgs (PySem.W.fnOf x qual params body scope .none kV doc pm an cdv ct) ⟨us ++ rest, []⟩ = (newTuple rest >>= fun t => pure (ps.zip us ++ [(pv, t)])))
    (hb : ∀ (cdv : Value) (A : Around) (outer : List Env) (s : Shared) (H : Hp) (E : XK), Ct (cxB P w K mg base N qual scope f cdv A outer s H E) g (fun cls d _ H => E cls d H) k → PassesOwn (model P w) (cxB P w K mg base N qual scope f cdv A outer s H E).A (cxB P w K mg base N qual scope f cdv A outer s H E).env (cxB P w K mg base N qual scope f cdv A outer s H E).xe →
      PSs (cxB P w K mg base N qual scope f cdv A outer s H E) body (sI g (fun cls d _ H => E cls d H) fb)) :
    FnV P w K mg base g (k + 1) f (fnStar ps.length N.length fb) := by
  obtain ⟨oc, od, dV, kV, doc, pm, an, cdv, ct, osl, rfl, lk, hcd, hdv, _⟩ := F.ex
  have hdV : dV = .none := by
    rcases hdv with ⟨_, h⟩ | ⟨h, _⟩
    · exact h
    · exact absurd rfl h
  subst hdV
  refine ⟨fun A outer s H us vs z hc ds Q E hr hgd e0 rv st rd o => ?_⟩
  unfold fnStar at o
  by_cases hl : ps.length ≤ ds.length ∧ ds.length ≤ sizeLine
  · rw [if_pos hl] at o
    have hvl : vs.length = ds.length := rd.length.symm
    have ev : vs = vs.take ps.length ++ vs.drop ps.length := (List.take_append_drop _ _).symm
    obtain ⟨u1, u2, rfl, r1, r2⟩ := StX.vals_split (ws := vs.take ps.length) (rest := vs.drop ps.length) (us := us) (by rw [← ev]; exact rv)
    have l1 : (vs.take ps.length).length = ps.length := by rw [List.length_take]; omega
    have l2 : (vs.drop ps.length).length ≤ sizeLine := by rw [List.length_drop]; omega
    have hn : H s.heap.objs.size = none := e0.hok.fresh (Nat.le_refl _)
    have hl1 : u1.length = ps.length := by rw [← r1.length]; exact l1
    have hl2 : u2.length ≤ sizeLine := by rw [← r2.length]; exact l2
    have hpl : ps.length + 1 ≤ N.length := by
      have q := congrArg List.length S.pre
      rw [List.length_take, List.length_append] at q
      simp at q
      omega
    refine StX.run_bnd lk hcd S hr e0 (G := fun xs H2 => ∃ p, H p = none ∧ xs = vs.take ps.length ++ [V.ref p] ∧ H2 = upd H p (.tup (vs.drop ps.length))) (fun A' Ex Q' h => ?_) fun s2 H2 xs ⟨p, hp, ex, eH⟩ hr' => ?_
    · rw [hbind kV doc pm an cdv ct u1 u2 hl1]
      refine wpAny_bind (wpAny_newTuple (wpAny_pure ?_) hl2)
      have new : ObjOk P w (upd H s.heap.objs.size (.tup (vs.drop ps.length))) (s.heap.push ({ cls := .type "tuple", data := .seq u2.toArray } : Obj)) s.heap.objs.size (.tup (vs.drop ps.length)) := ⟨l2, u2, r2, ⟨_, Heap.get?_push_size _ rfl, rfl, _, rfl⟩⟩
      have un := StX.un_laid (fs := frs outer) (s := s) (o := ({ cls := .type "tuple", data := .seq u2.toArray } : Obj)) (u := .tup (vs.drop ps.length)) hn
      have z := h _ _ (vs.take ps.length ++ [V.ref s.heap.objs.size]) (u1 ++ [Value.ref s.heap.objs.size]) (StX.env0_laid e0 new) un rfl (fun e s' => StX.cxUp outer s H _ _ E e s' un (fun b o q => Heap.get?_push_of_some _ q) rfl) (r1.append (.cons rfl .nil))
        (by rw [List.length_append, List.length_append, l1] <;> rfl) ⟨_, hn, rfl, rfl⟩
      rw [List.zip_append hl1.symm] at z
      exact z
    · subst ex eH
      have C : Ct (cxB P w K mg base N qual scope f cdv A outer s2 (upd H p (.tup (vs.drop ps.length))) E) g (fun cls d _ H => E cls d H) k := ⟨hgK, takes_of rfl rfl rfl rfl, rfl, hr', hgd⟩
      refine ⟨_, hb cdv A outer s2 _ E C (passes_of rfl), ?_⟩
      obtain ⟨z1, x1, s1, rt⟩ := st.newTup hp (rd.drop ps.length)
      refine ⟨z1, startS N.length (ds.take ps.length ++ [.tup (ds.drop ps.length)]), hc, Sv.start (((rd.take ps.length).mono x1.le).append (.cons rt .nil)) (by rw [List.length_append, l1]; simp; omega), s1, ?_⟩
      revert o
      cases fb (startS N.length (ds.take ps.length ++ [.tup (ds.drop ps.length)])) hc with
      | rt d h => exact fun o z' H' v x' s' r' => o z' H' v (x1.trans x') s' r'
      | nx sl h => exact fun o z' H' σ' x' _ s' => o z' H' .non (x1.trans x') s' .non
      | exc c sl h => exact fun o z' H' σ' x' _ s' => o z' H' (x1.trans x') s'
      | bk sl h => exact fun o => o.elim
      | ct sl h => exact fun o => o.elim
      | bad => exact fun o => o
  · rw [if_neg hl] at o
    exact o.elim
end
section
variable {X : Cx} {g : Gx} {W : WX} {k : Nat} {f : Addr} {cl : List D → Hc → Res D}
theorem run_fnV {pins : List (Addr × Obj)} {σ : St} {H : Hp} {s : Shared} {Q : VK} {us : List Value} {vs : List V} {z : Fz} {hc : Hc} {ds : List D} (F : FnV X.prog X.w X.K X.mg X.base g k f cl) (c : Ct X g W k) (I : Inv X pins σ H s) (r : Vals vs us)
    (st : StR g z H hc) (rd : RelDs g z ds vs) (o : OutE g W z H σ (cl ds hc) Q) : wpAny (model X.prog X.w) X.A (call (.ref f) us) (EP X pins σ Q) X.xe s := by
  have o' : OutC g z H (cl ds hc) Q (WE W σ) := o
  refine wpAny_call (codeAny_mono (F.run X.A X.stack s H us vs z hc ds Q (WE W σ) c.room c.guards I.env0 r st rd o') fun r s' hq => ?_)
  cases r with
  | error e => exact passAt c.tk σ pins H s e s' I hq
  | ok fl =>
    cases fl with
    | ret u => exact I.after hq
    | next => exact False.elim hq
    | brk => exact False.elim hq
    | cont => exact False.elim hq
end
/-! ### fields -/
theorem zip_lookup {g : Gx} {z : Fz} {f : Str} : ∀ {fs : List (Str × D)} {vs : List V} {d : D}, RelDs g z (fs.map (·.2)) vs → fs.lookup f = some d → ∃ v, ((fs.map (·.1)).zip vs).lookup f = some v ∧ RelD g z d v
  | [], _, _, _, e => nomatch e
  | (k, x) :: r, _, d, .cons rx rr, e => by
    cases h : f == k with
    | true =>
      simp only [List.lookup, h] at e
      cases e
      exact ⟨_, by simp only [List.map_cons, List.zip_cons_cons, List.lookup, h], rx⟩
    | false =>
      simp only [List.lookup, h] at e
      obtain ⟨v, e1, e2⟩ := zip_lookup rr e
      exact ⟨v, by simp only [List.map_cons, List.zip_cons_cons, List.lookup, h]; exact e1, e2⟩
theorem zip_none {f : Str} : ∀ {fs : List (Str × D)} {vs : List V}, fs.lookup f = none → ((fs.map (·.1)).zip vs).lookup f = none
  | [], _, _ => rfl
  | (k, x) :: r, [], _ => rfl
  | (k, x) :: r, v :: vs, e => by
    cases h : f == k with
    | true => simp only [List.lookup, h] at e; cases e
    | false =>
      simp only [List.lookup, h] at e
      simp only [List.map_cons, List.zip_cons_cons, List.lookup, h]
      exact zip_none e
def putFD (f : Str) (v : D) : List (Str × D) → List (Str × D)
  | [] => [(f, v)]
  | (g, x) :: r => if g = f then (g, v) :: r else (g, x) :: putFD f v r
theorem putF_rel {g : Gx} {z : Fz} {f : Str} {d : D} {v : V} (rd : RelD g z d v) : ∀ {fs : List (Str × D)} {vs : List V}, RelDs g z (fs.map (·.2)) vs → ∃ vs', putF f v ((fs.map (·.1)).zip vs) = ((putFD f d fs).map (·.1)).zip vs' ∧ RelDs g z ((putFD f d fs).map (·.2)) vs'
  | [], _, .nil => ⟨[v], rfl, .cons rd .nil⟩
  | (k, x) :: r, _, .cons (v := y) (vs := ys) rx rr => by
    by_cases h : k = f
    · refine ⟨v :: ys, ?_, ?_⟩
      · simp only [List.map_cons, List.zip_cons_cons, putF, putFD, if_pos h]
      · simp only [putFD, if_pos h, List.map_cons]; exact .cons rd rr
    · obtain ⟨vs', e1, e2⟩ := putF_rel (f := f) rd rr
      refine ⟨y :: vs', ?_, ?_⟩
      · simp only [List.map_cons, List.zip_cons_cons, putF, putFD, if_neg h, e1]
      · simp only [putFD, if_neg h, List.map_cons]; exact .cons rx e2
theorem StR.insAt {g : Gx} {z : Fz} {H : Hp} {hc : Hc} (st : StR g z H hc) {n c : Nat} {v : V} {fs : List (Str × D)} (h : hc.get n = some (.ins c fs)) (r : RelD g z (.loc n) v) :
    ∃ a dx vs, v = .ref a ∧ z.ρ n = some a ∧ H a = some (.ins (g.fa c) dx ((fs.map (·.1)).zip vs)) ∧ RelDs g z (fs.map (·.2)) vs := by
  cases r with
  | loc hr =>
    obtain ⟨b, e1, e2, dx, vs, e3, e4⟩ := st.obj n _ h
    rw [hr] at e1; cases e1
    exact ⟨_, dx, vs, rfl, hr, e3, e4⟩
/-- o.f, o an instance of the class c -/
def fldD (c : Nat) (f : Str) (hc : Hc) : D → Option D
  | .loc n => (match hc.get n with
    | some (.ins c' fs) => if c' = c then fs.lookup f else none
    | _ => none)
  | _ => none
theorem fldD_some {c : Nat} {f : Str} {hc : Hc} {d r : D} (e : fldD c f hc d = some r) : ∃ n fs, d = .loc n ∧ hc.get n = some (.ins c fs) ∧ fs.lookup f = some r := by
  cases d with
  | loc n =>
    simp only [fldD] at e
    cases q : hc.get n with
    | none => rw [q] at e; cases e
    | some o =>
      rw [q] at e
      cases o with
      | lst es => cases e
      | dct ks es => cases e
      | ins c' fs =>
        by_cases h : c' = c
        · subst h; simp only [if_true] at e; exact ⟨n, fs, rfl, q, e⟩
        · simp only [if_neg h] at e; cases e
  | _ => cases e
/-- o.f = v -/
def putFld (c : Nat) (f : Str) (hc : Hc) (d v : D) : Option Hc := match d with
  | .loc n => (match hc.get n with
    | some (.ins c' fs) => if c' = c ∧ fs.length < 1000 then some (hc.set n (.ins c (putFD f v fs))) else none
    | _ => none)
  | _ => none
theorem putFld_some {c : Nat} {f : Str} {hc hc' : Hc} {d v : D} (e : putFld c f hc d v = some hc') : ∃ n fs, d = .loc n ∧ hc.get n = some (.ins c fs) ∧ fs.length < 1000 ∧ hc' = hc.set n (.ins c (putFD f v fs)) := by
  cases d with
  | loc n =>
    simp only [putFld] at e
    cases q : hc.get n with
    | none => rw [q] at e; cases e
    | some o =>
      rw [q] at e
      cases o with
      | lst es => cases e
      | dct ks es => cases e
      | ins c' fs =>
        by_cases h : c' = c ∧ fs.length < 1000
        · simp only [if_pos h] at e
          cases e
          obtain ⟨rfl, h2⟩ := h
          exact ⟨n, fs, rfl, q, h2, rfl⟩
        · simp only [if_neg h] at e; cases e
  | _ => cases e
def fldS (c : Nat) (f : Str) (fo fv : Sl → Hc → Res D) : Sl → Hc → RS := fun sl hc => (fv sl hc).toS sl fun v hc1 => (fo sl hc1).toS sl fun o hc2 => match putFld c f hc2 o v with
  | some hc3 => .nx sl hc3
  | none => .bad
/-- o.f += e, ints -/
def fldA (c : Nat) (f : Str) (op : Int → Int → Int) (fo fv : Sl → Hc → Res D) : Sl → Hc → RS := fun sl hc => (fo sl hc).toS sl fun o hc1 => match fldD c f hc1 o with
  | some (.int i) => (fv sl hc1).toS sl fun v hc2 => (match v with
    | .int j => (match putFld c f hc2 o (.int (op i j)) with
      | some hc3 => .nx sl hc3
      | none => .bad)
    | _ => .bad)
  | _ => .bad
section
variable {X : Cx} {g : Gx} {W : WX} {c kk : Nat} {f : Str} {e o value : Expr} {fe fo fv : Sl → Hc → Res D} {pos p2 : Pos}
theorem e_fld (c : Nat) (ct : Ct X g W kk) (hC : Cls g.K (g.fa c)) (hN : NoAttr g.K (g.fa c) f) (he : PE X e (tI g W fe)) (hb : attributeBase e f X.env (eval e X.env) = eval e X.env := by rfl) : PE X (.Attribute e f pos) (tI g W (unE (fldD c f) fe)) := by
  refine pe_imp (pe_fld he hb) fun σ H Q ⟨z, sl, hc, hs, st, h⟩ => ?_
  refine tI.mono (OutE.thenE (f := fe) hs st h) fun v H1 ⟨z1, d1, hc1, x1, hs1, st1, r1, o1⟩ => ?_
  obtain ⟨r, er, q⟩ := o1.lift
  obtain ⟨n, fs, rfl, hg, hl⟩ := fldD_some er
  obtain ⟨a, dx, vs, rfl, hr, hH, rl⟩ := st1.insAt hg r1
  obtain ⟨u, l1, l2⟩ := zip_lookup rl hl
  exact ⟨a, g.fa c, dx, _, u, rfl, hH, by rw [ct.hK]; exact hC, by rw [ct.hK]; exact hN, l1, q z1 H1 u (.refl _ _) st1 l2⟩
theorem zip_len {fs : List (Str × D)} {vs : List V} : ((fs.map (·.1)).zip vs).length ≤ fs.length := by
  rw [List.length_zip, List.length_map]; exact Nat.min_le_left _ _
theorem s_fld (c : Nat) (ct : Ct X g W kk) (hC : Cls g.K (g.fa c)) (hN : NoAttr g.K (g.fa c) f) (ho : PE X o (tI g W fo)) (hv : PE X value (tI g W fv)) (hs : swapsWith value (some (.Attribute o f p2)) pos.line X.env = pure false := by rfl) : PS X (.Assign [.Attribute o f p2] value pos) (sI g W (fldS c f fo fv)) := by
  refine ps_imp (ps_fld ho hv hs) fun E σ H ⟨z, sl, hc, hs, s, h⟩ => ?_
  refine tI.mono (OutS.thenE (f := fv) hs s h) fun v H1 ⟨z1, d1, hc1, x1, hs1, st1, r1, o1⟩ => ?_
  refine tI.mono (OutS.thenE (f := fo) hs1 st1 o1) fun v2 H2 ⟨z2, d2, hc2, x2, hs2, st2, r2, o2⟩ => ?_
  cases e : putFld c f hc2 d2 d1 with
  | none => rw [e] at o2; exact o2.elim
  | some hc3 =>
    rw [e] at o2
    obtain ⟨n, fs, rfl, hg, hl, rfl⟩ := putFld_some e
    obtain ⟨a, dx, vs, rfl, hr, hH, rl⟩ := st2.insAt hg r2
    obtain ⟨vs', e1, e2⟩ := putF_rel (f := f) (r1.mono x2.le) rl
    refine ⟨a, g.fa c, dx, _, rfl, hH, by rw [ct.hK]; exact hC, by rw [ct.hK]; exact hN, Nat.lt_of_le_of_lt zip_len hl, ?_⟩
    rw [e1]
    obtain ⟨xx, ss⟩ := st2.write (o' := .ins c (putFD f d1 fs)) (u := .ins (g.fa c) dx (((putFD f d1 fs).map (·.1)).zip vs')) hg hr ⟨dx, vs', upd_same, e2⟩
    exact o2 z2 _ σ xx hs2 ss
theorem s_fldaug {op : Operator} {fop : Int → Int → Int} (c : Nat) (ct : Ct X g W kk) (hC : Cls g.K (g.fa c)) (hN : NoAttr g.K (g.fa c) f) (hop : InOp X op (fun x y H Q => ∃ i j, x = .int i ∧ y = .int j ∧ Q (.int (fop i j)) H)) (ho : PE X o (tI g W fo)) (hv : PE X value (tI g W fv)) :
    PS X (.AugAssign (.Attribute o f p2) op value pos) (sI g W (fldA c f fop fo fv)) := by
  refine ps_imp (ps_fldaug ho hv hop) fun E σ H ⟨z, sl, hc, hs, s, h⟩ => ?_
  refine tI.mono (OutS.thenE (f := fo) hs s h) fun v H1 ⟨z1, d1, hc1, x1, hs1, st1, r1, o1⟩ => ?_
  cases e : fldD c f hc1 d1 with
  | none => rw [e] at o1; exact o1.elim
  | some r =>
    cases r with
    | int i =>
      rw [e] at o1
      obtain ⟨n, fs, rfl, hg, hl⟩ := fldD_some e
      obtain ⟨a, dx, vs, rfl, hr, hH, rl⟩ := st1.insAt hg r1
      obtain ⟨u, l1, l2⟩ := zip_lookup rl hl
      cases l2
      refine ⟨a, g.fa c, dx, _, .int i, rfl, hH, by rw [ct.hK]; exact hC, by rw [ct.hK]; exact hN, l1, ?_⟩
      refine tI.mono (OutS.thenE (f := fv) hs1 st1 o1) fun v2 H2 ⟨z2, d2, hc2, x2, hs2, st2, r2, o2⟩ => ?_
      cases r2 with
      | int j =>
        refine ⟨i, j, rfl, rfl, ?_⟩
        dsimp only at o2
        cases e' : putFld c f hc2 (.loc n) (.int (fop i j)) with
        | none => rw [e'] at o2; exact o2.elim
        | some hc3 =>
          rw [e'] at o2
          obtain ⟨n', fs', en, hg', hl', rfl⟩ := putFld_some e'
          cases en
          obtain ⟨a', dx', vs', ea, hr', hH', rl'⟩ := st2.insAt hg' (RelD.loc (g := g) (x2.le.2 _ _ hr))
          cases ea
          obtain ⟨vs2, e1, e2⟩ := putF_rel (f := f) (.int (fop i j)) rl'
          refine ⟨dx', _, hH', Nat.lt_of_le_of_lt zip_len hl', ?_⟩
          rw [e1]
          obtain ⟨xx, ss⟩ := st2.write (o' := .ins c (putFD f (.int (fop i j)) fs')) (u := .ins (g.fa c) dx' (((putFD f (.int (fop i j)) fs').map (·.1)).zip vs2)) hg' hr' ⟨dx', vs2, upd_same, e2⟩
          exact o2 z2 _ σ xx hs2 ss
      | _ => exact o2.elim
    | _ => rw [e] at o1; exact o1.elim
end
/-! ### methods -/
/-- a method of the class c -/
structure FnM (P : Program) (w : World) (K : PySem.W.Frag) (mg : Str → Option Value) (base : Heap) (g : Gx) (k c : Nat) (m : Str) (cl : List D → Hc → Res D) : Prop where
  ex : ∃ f, FnV P w K mg base g k f cl ∧ Cls K (g.fa c) ∧ Meth K (g.fa c) m f
theorem FnM.mono {P : Program} {w : World} {K : PySem.W.Frag} {mg : Str → Option Value} {base : Heap} {g : Gx} {j k c : Nat} {m : Str} {cl : List D → Hc → Res D} (F : FnM P w K mg base g j c m cl) (h : j ≤ k) : FnM P w K mg base g k c m cl := by
  obtain ⟨f, h1, h2⟩ := F.ex
  exact ⟨f, h1.mono h, h2⟩
def mthR (c : Nat) (m : Str) (cl : List D → Hc → Res D) (fs : Sl → Hc → Res (List D)) (sl : Sl) (o : D) (hc1 : Hc) : Res D := match o with
  | .loc n => (match hc1.get n with
    | some (.ins c' fl) => if c' = c ∧ fl.lookup m = none then (fs sl hc1).bind fun ds hc2 => cl (.loc n :: ds) hc2 else .bad
    | _ => .bad)
  | _ => .bad
def mthE (c : Nat) (m : Str) (cl : List D → Hc → Res D) (fo : Sl → Hc → Res D) (fs : Sl → Hc → Res (List D)) : Sl → Hc → Res D := fun sl hc => (fo sl hc).bind fun o hc1 => mthR c m cl fs sl o hc1
section
variable {X : Cx} {g : Gx} {W : WX} {c k : Nat} {m : Str} {cl : List D → Hc → Res D} {e o : Expr} {es : List Expr} {fo : Sl → Hc → Res D} {fs : Sl → Hc → Res (List D)} {pos apos : Pos}
theorem read_mth {z : Fz} {H : Hp} {σ : St} {sl : Sl} {hc : Hc} {Q : VK} {d : D} {v : V} {j : Sl → Hc → Res (List D)} (hs : Sv g z sl σ) (st : StR g z H hc) (r : RelD g z d v) (h : OutE g W z H σ (mthR c m cl j sl d hc) Q) : ∃ (n : Nat) (fl : List (Str × D)) (a dx : Addr) (vs : List V), d = .loc n ∧ v = .ref a ∧ z.ρ n = some a ∧ H a = some (.ins (g.fa c) dx ((fl.map (·.1)).zip vs)) ∧ ((fl.map (·.1)).zip vs).lookup m = none ∧ OutE g W z H σ ((j sl hc).bind fun ds hc2 => cl (.loc n :: ds) hc2) Q := by
  unfold mthR at h
  cases d with
  | loc n =>
    dsimp only at h
    cases q : hc.get n with
    | none => rw [q] at h; exact h.elim
    | some ob =>
      rw [q] at h
      cases ob with
      | lst es => exact h.elim
      | dct ks es => exact h.elim
      | ins c' fl =>
        dsimp only at h
        by_cases hh : c' = c ∧ fl.lookup m = none
        · rw [if_pos hh] at h
          obtain ⟨rfl, hn⟩ := hh
          obtain ⟨a, dx, vs, rfl, hr, hH, rl⟩ := st.insAt q r
          exact ⟨n, fl, a, dx, vs, rfl, rfl, hr, hH, zip_none hn, h⟩
        · rw [if_neg hh] at h; exact h.elim
  | _ => exact h.elim
theorem e_meth {pl : Sem Bool} (F : FnM X.prog X.w X.K X.mg X.base g k c m cl) (ct : Ct X g W k) (ho : PE X o (tI g W fo)) (ha : PA X (e :: es) (aI g W fs))
    (hst : starEach (e :: es) X.env = (false, eval e X.env) :: starEach es X.env := by rfl) (hpl : (backTo pos (starEach es X.env)).any (·.1) = false := by rfl)
    (ht : eval (.Call (.Attribute o m apos) (e :: es) [] pos) X.env = (do
      let ov ← eval o X.env
      standAt apos.atName
      let (f, first) ← holding [ov] (getMethod ov m pl)
      callWith pos f first (backTo pos (starEach (e :: es) X.env)) (backToKw pos (keywordEach [] X.env))) := by rfl) :
    PE X (.Call (.Attribute o m apos) (e :: es) [] pos) (tI g W (mthE c m cl fo fs)) := by
  obtain ⟨f, F, hC, hM⟩ := F.ex
  refine ⟨fun pins s σ H Q I ⟨z, sl, hc, hs, st, h⟩ => ?_⟩
  refine PySem.W.methodCall_KW (pl := pl) (thn (ho.run pins s σ H _ I (OutE.thenE (f := fo) hs st h)) fun u s1 ⟨x, H1, I1, rx, z1, d1, hc1, x1, hs1, st1, r1, o1⟩ => ?_) ht
  obtain ⟨n, fl, a, dx, vs, rfl, rfl, hr, hH, hl, o2⟩ := read_mth (j := fs) hs1 st1 r1 o1
  obtain rfl : u = Value.ref a := rx
  refine getmeth_ok I1 hH hC hM hl ?_
  refine PySem.W.callWith_K (first := [.ref a]) (h₀ := X.base) I.ok.mod.kin hM.kp (thn (ha.run pos pins s1 σ H1 _ I1 (OutE.thenA (f := fs) hs1 st1 o2)) fun us s2 ⟨ws, H2, I2, rw', z2, ds, hc2, x2, hs2, st2, rd, o3⟩ => ⟨I2.kIn, ?_⟩) hst hpl
  exact run_fnV (us := .ref a :: us) (vs := .ref a :: ws) F ct I2 (.cons rfl rw') st2 (.cons (.loc (x2.le.2 _ _ hr)) rd) o3
theorem e_meth0 {pl : Sem Bool} (F : FnM X.prog X.w X.K X.mg X.base g k c m cl) (ct : Ct X g W k) (ho : PE X o (tI g W fo))
    (ht : eval (.Call (.Attribute o m apos) [] [] pos) X.env = (do
      let ov ← eval o X.env
      standAt apos.atName
      let (f, first) ← holding [ov] (getMethod ov m pl)
      callWith pos f first (backTo pos (starEach [] X.env)) (backToKw pos (keywordEach [] X.env))) := by rfl) :
    PE X (.Call (.Attribute o m apos) [] [] pos) (tI g W (mthE c m cl fo nA)) := by
  obtain ⟨f, F, hC, hM⟩ := F.ex
  refine ⟨fun pins s σ H Q I ⟨z, sl, hc, hs, st, h⟩ => ?_⟩
  refine PySem.W.methodCall_KW (pl := pl) (thn (ho.run pins s σ H _ I (OutE.thenE (f := fo) hs st h)) fun u s1 ⟨x, H1, I1, rx, z1, d1, hc1, x1, hs1, st1, r1, o1⟩ => ?_) ht
  obtain ⟨n, fl, a, dx, vs, rfl, rfl, hr, hH, hl, o2⟩ := read_mth (j := nA) hs1 st1 r1 o1
  obtain rfl : u = Value.ref a := rx
  refine getmeth_ok I1 hH hC hM hl ?_
  exact PySem.W.callWith_K0 (first := [.ref a]) I1.kIn hM.kp (run_fnV (us := [.ref a]) (vs := [.ref a]) F ct I1 (.cons rfl .nil) st1 (.cons (.loc hr) .nil) o2)
end
/-! ### a call of none -/
theorem e_call0 {X : Cx} {g : Gx} {W : WX} {k : Nat} {x : Str} {cl : List D → Hc → Res D} {p pos : Pos} (F : FnT X.prog X.w X.K X.mg X.base g k x cl) (c : Ct X g W k) (hg : Gl X x := by rfl) (hdb : (x == ("__debug__" : Str)) = false := by decide) :
    PE X (.Call (.Name x p) [] [] pos) (tI g W (callE cl nA)) := by
  obtain ⟨f, fd, ps, F, hb, hm, hk⟩ := F.ex
  refine ⟨fun pins s σ H Q I ⟨z, sl, hc, hs, st, h⟩ => ?_⟩
  refine wpAny_Call_Name_kw (ld_glob I hg hm ?_ hdb)
  exact PySem.W.callWith_K0 I.kIn hk (run_fnI (us := []) F c hb I .nil st .nil h)
/-! ### making -/
theorem StR.side {g : Gx} {z : Fz} {H : Hp} {hc : Hc} (st : StR g z H hc) {p : Addr} {o : HO} (hp : H p = none) : Ext z H z (upd H p o) ∧ StR g z (upd H p o) hc := by
  have hne : ∀ a u, H a = some u → a ≠ p := fun a u e q => by subst q; rw [hp] at e; cases e
  refine ⟨⟨.refl z, fun a u e _ => by rw [upd_ne (hne a u e)]; exact e, fun a u e => ⟨u, by rw [upd_ne (hne a u e)]; exact e⟩, fun a u e n => (by rw [e] at n; cases n), fun n a e k => (by rw [e] at k; cases k)⟩, ⟨fun a u e => ?_, st.inj, fun n a e => ?_, st.fresh, fun n u e => ?_⟩⟩
  · have := st.sub a u e
    rw [upd_ne (hne a u this)]; exact this
  · obtain ⟨u, hu⟩ := st.live n a e
    exact ⟨u, by rw [upd_ne (hne a u hu)]; exact hu⟩
  · obtain ⟨a, h1, h2, h3⟩ := st.obj n u e
    refine ⟨a, h1, h2, ?_⟩
    cases u with
    | lst ds =>
      obtain ⟨xs, e1, e2⟩ := h3
      exact ⟨xs, by rw [upd_ne (hne a _ e1)]; exact e1, e2⟩
    | ins c fs =>
      obtain ⟨dx, vs, e1, e2⟩ := h3
      exact ⟨dx, vs, by rw [upd_ne (hne a _ e1)]; exact e1, e2⟩
    | dct ks es =>
      obtain ⟨vs, e1, el, e2⟩ := h3
      exact ⟨vs, by rw [upd_ne (hne a _ e1)]; exact e1, el, e2⟩
/-- what is known of a class that is made by its own __init__ -/
structure FnK (P : Program) (w : World) (K : PySem.W.Frag) (mg : Str → Option Value) (base : Heap) (g : Gx) (k c : Nat) (x : Str) (cl : List D → Hc → Res D) : Prop where
  ex : ∃ f, FnV P w K mg base g k f cl ∧ Mk K (g.fa c) f ∧ mg x = some (.ref (g.fa c))
theorem FnK.mono {P : Program} {w : World} {K : PySem.W.Frag} {mg : Str → Option Value} {base : Heap} {g : Gx} {j k c : Nat} {m : Str} {cl : List D → Hc → Res D} (F : FnK P w K mg base g j c m cl) (h : j ≤ k) : FnK P w K mg base g k c m cl := by
  obtain ⟨f, h1, h2⟩ := F.ex
  exact ⟨f, h1.mono h, h2⟩
def makR (c : Nat) (cl : List D → Hc → Res D) (ds : List D) (hc : Hc) : Res D := match cl (.loc hc.next :: ds) (hc.new (.ins c [])) with
  | .ok .non hc2 => .ok (.loc hc.next) hc2
  | .exc e hc2 => .exc e hc2
  | _ => .bad
def makE (c : Nat) (cl : List D → Hc → Res D) (fs : Sl → Hc → Res (List D)) : Sl → Hc → Res D := fun sl hc => (fs sl hc).bind fun ds hc1 => makR c cl ds hc1
section
variable {X : Cx} {g : Gx} {W : WX} {c k : Nat} {x : Str} {cl : List D → Hc → Res D} {e : Expr} {es : List Expr} {fs : Sl → Hc → Res (List D)} {p pos : Pos}
theorem run_makeV {f : Addr} {pins : List (Addr × Obj)} {σ : St} {H : Hp} {s : Shared} {Q : VK} {us : List Value} {vs : List V} {z : Fz} {hc : Hc} {ds : List D} (F : FnV X.prog X.w X.K X.mg X.base g k f cl) (M : Mk X.K (g.fa c) f) (ct : Ct X g W (k + 1)) (I : Inv X pins σ H s) (r : Vals vs us)
    (st : StR g z H hc) (rd : RelDs g z ds vs) (o : OutE g W z H σ (makR c cl ds hc) Q) : wpAny (model X.prog X.w) X.A (call (.ref (g.fa c)) us) (EP X pins σ Q) X.xe s := by
  have I2 := Inv.made (C := g.fa c) I
  have hn1 : H s.heap.objs.size = none := I.hok.fresh (Nat.le_refl _)
  have hn2 : H (s.heap.objs.size + 1) = none := I.hok.fresh (Nat.le_succ _)
  have ne : s.heap.objs.size + 1 ≠ s.heap.objs.size := Nat.succ_ne_self _
  obtain ⟨x1, s1⟩ := st.side (o := .own (s.heap.objs.size + 1)) hn1
  obtain ⟨z2, x2, s2, hρ⟩ := s1.newLoc (o := .ins c []) (u := .ins (g.fa c) s.heap.objs.size []) (p := s.heap.objs.size + 1) (by rw [upd_ne ne]; exact hn2) fun z' _ _ => ⟨s.heap.objs.size, [], upd_same, .nil⟩
  have xx := x1.trans x2
  have r2 : Vals (V.ref (s.heap.objs.size + 1) :: vs) (Value.ref (s.heap.objs.size + 1) :: us) := .cons rfl r
  have oc : OutC g z2 (upd (upd H s.heap.objs.size (.own (s.heap.objs.size + 1))) (s.heap.objs.size + 1) (.ins (g.fa c) s.heap.objs.size [])) (cl (.loc hc.next :: ds) (hc.new (.ins c []))) (fun v H2 => v = .non ∧ Q (.ref (s.heap.objs.size + 1)) H2) (WE W σ) := by
    unfold makR at o
    revert o
    cases cl (.loc hc.next :: ds) (hc.new (.ins c [])) with
    | ok d hc2 =>
      intro o z' H' v x' s' r'
      cases r' with
      | non => exact ⟨rfl, o z' H' _ (xx.trans x') s' (.loc (x'.le.2 _ _ hρ))⟩
      | _ => exact o.elim
    | exc e hc2 => exact fun o z' H' x' s' => o z' H' (xx.trans x') s'
    | bad => exact fun o => o
  refine wpAny_call (make_map (f := f) I.kIn M.makes M.init (beq_iff_eq.mp M.fn) (codeAny_mono (F.run _ X.stack _ _ (Value.ref (s.heap.objs.size + 1) :: us) _ z2 _ (.loc hc.next :: ds) _ (WE W σ) (ct.room.make (g.fa c) us []) ct.guards (I2.env0.make (g.fa c) us []) r2 s2 (.cons (.loc hρ) (rd.mono xx.le)) oc) fun r s' hq' => ?_))
  cases r with
  | error e => exact passAt ct.tk σ pins _ _ e s' I2 hq'
  | ok fl =>
    cases fl with
    | ret u =>
      obtain ⟨v, H', I3, rv, ev, q3⟩ := I2.after hq'
      subst ev
      exact ⟨rv, ⟨V.ref (s.heap.objs.size + 1), H', I3, rfl, q3⟩⟩
    | next => exact False.elim hq'
    | brk => exact False.elim hq'
    | cont => exact False.elim hq'
theorem e_make (F : FnK X.prog X.w X.K X.mg X.base g k c x cl) (ct : Ct X g W (k + 1)) (ha : PA X (e :: es) (aI g W fs)) (hg : Gl X x := by rfl) (hdb : (x == ("__debug__" : Str)) = false := by decide) (he : starEach (e :: es) X.env = (false, eval e X.env) :: starEach es X.env := by rfl)
    (hpl : (backTo pos (starEach es X.env)).any (·.1) = false := by rfl) : PE X (.Call (.Name x p) (e :: es) [] pos) (tI g W (makE c cl fs)) := by
  obtain ⟨f, F, M, hm⟩ := F.ex
  refine ⟨fun pins s σ H Q I ⟨z, sl, hc, hs, st, h⟩ => ?_⟩
  refine wpAny_Call_Name_kw (ld_glob I hg hm ?_ hdb)
  refine PySem.W.callWith_K (h₀ := X.base) I.ok.mod.kin M.kp (thn (ha.run pos pins s σ H _ I (OutE.thenA (f := fs) hs st h)) fun us s1 ⟨vs, H1, I1, r, z1, ds, hc1, x1, hs1, st1, rd, o1⟩ => ⟨I1.kIn, ?_⟩) he hpl
  exact run_makeV F M ct I1 r st1 rd o1
end
end Bo

set_option Elab.async false
set_option linter.all false
set_option maxRecDepth 100000
set_option maxHeartbeats 4000000
set_option autoImplicit false
/-! Bo23: raise, try .. except X as n: y = n, exceptions as values, isinstance of them. -/
namespace Bo
open PySem PySem.Spec L2

/-- an own exception class over ValueError without own __init__ -/
structure ExcF (K : PySem.W.Frag) (mg : Str → Option Value) (g : Gx) (c : Nat) (x : Str) : Prop where
  gC : mg x = some (.ref (g.fa c))
  xC : PySem.W.excIn K (g.fa c) He.veBase "ValueError.__new__" = true
  kC : PySem.W.keepIn K (.ref (g.fa c)) = true
  bC : PySem.W.subIn K (.ref (g.fa c)) (.type "BaseException") = some true
  tC : PySem.W.typeIn K (.ref (g.fa c)) = some (.type "type")
def raiS (c : Nat) (fe : Sl → Hc → Res D) : Sl → Hc → RS := fun sl hc => (fe sl hc).toS sl fun _ hc1 => .exc c sl hc1
section
variable {X : Cx} {g : Gx} {W : WX} {c k : Nat} {x : Str} {e : Expr} {fe : Sl → Hc → Res D} {p p2 pos : Pos}
theorem s_raise (F : ExcF X.K X.mg g c x) (ct : Ct X g W k) (he : PE X e (tI g W fe)) (hg : Gl X x := by rfl) (hs : starEach [e] X.env = (false, eval e X.env) :: starEach [] X.env := by rfl) (hdb : (x == ("__debug__" : Str)) = false := by decide) :
    PS X (.Raise (some (.Call (.Name x p) [e] [] p2)) none pos) (sI g W (raiS c fe)) := by
  refine ps_imp (ps_raise ct.calm ct.tk (SkE.pmk_own1 PySem.F.excBase_ValueError F.xC F.gC F.kC (raises_own F.bC F.tC) hg he hs hdb)) fun E σ H ⟨z, sl, hc, hs, st, h⟩ => ?_
  refine tI.mono (OutS.thenE (f := fe) hs st h) fun v H1 ⟨z1, d1, hc1, x1, hs1, st1, r1, o1⟩ => ?_
  exact o1 z1 H1 σ (.refl _ _) hs1 st1
theorem exA_ok {P : Program} {w : World} {H : Hp} {h : Heap} {a : Addr} {cls : Value} {oe : Obj} {vs : Array Value} (e : h.get? a = some oe) (z : Zc cls none oe) (d : oe.data = .fields vs) : ObjOk P w H h a (ExA cls a) :=
  ⟨⟨oe, vs, e, z, d⟩, ⟨oe, e⟩, fun _ _ ⟨o, v, q, r⟩ k => ⟨o, v, k o q, r⟩⟩
/-- X(e) as a value -/
def excE (c : Nat) (fe : Sl → Hc → Res D) : Sl → Hc → Res D := fun sl hc => (fe sl hc).bind fun _ hc1 => .ok (.ex c) hc1
theorem e_exc (F : ExcF X.K X.mg g c x) (he : PE X e (tI g W fe)) (hg : Gl X x := by rfl) (hs : starEach [e] X.env = (false, eval e X.env) :: starEach [] X.env := by rfl) (hdb : (x == ("__debug__" : Str)) = false := by decide) :
    PE X (.Call (.Name x p) [e] [] pos) (tI g W (excE c fe)) := by
  refine ⟨fun pins s σ H Q I ⟨z, sl, hc, hs', st, h⟩ => ?_⟩
  refine wpAny_Call_Name_kw (ld_glob I hg F.gC ?_ hdb)
  refine PySem.W.callWith_K (h₀ := X.base) I.ok.mod.kin F.kC ?_ hs (by rfl)
  rw [hs]
  show wpAny _ _ (spliced ((false, eval e X.env) :: backTo pos (starEach [] X.env))) _ _ s
  refine Calls.spliced_cons (thn (he.run pins s σ H _ I (OutE.thenE (f := fe) hs' st h)) fun u s1 ⟨v, H1, I1, r1, z1, d1, hc1, x1, hs1, st1, rd, o1⟩ => ?_)
  refine Calls.spliced_nil ⟨I1.kIn, ?_⟩
  show wpAny _ _ (call (.ref (g.fa c)) [u]) _ _ _
  obtain ⟨bm, N, nm, qn, bs, hdct, sn, sub, ab, col, dd, k0, k1, k2, k3, k5, mN, hC, hN, hni, T⟩ := exc_obj I1.kIn F.xC
  refine wpAny_call_exc_subT PySem.F.excBase_ValueError T hC hN hni (fun h' a hm => ?_) (by show 1 ≤ sizeLine; rw [sizeLine_eq]; omega)
  have hn : H1 a = none := I1.hok.gone hm.new
  obtain ⟨t, ht, _, _⟩ := hm.there
  obtain ⟨xx, ss⟩ := st1.alloc (o := ExA (.ref (g.fa c)) a) hn
  exact ⟨.ref a, upd H1 a (ExA (.ref (g.fa c)) a), I1.laidN hm.keeps hm.new hn (exA_ok ht ⟨rfl, rfl⟩ rfl), rfl, o1 _ _ _ xx ss (.ex upd_same)⟩
end
/-! ### isinstance of an exception -/
def isXD (tb : Nat → Option Bool) (_ : Hc) : D → Option D
  | .ex c => (tb c).map .bl
  | _ => none
section
variable {X : Cx} {g : Gx} {W : WX} {k : Nat}
theorem call_isA {tb : Nat → Option Bool} {cv : Value} (hK : X.K = g.K) (hT : ∀ c b, tb c = some b → ExcC X.K (g.fa c) ∧ PySem.W.kitOne X.K (.ref (g.fa c)) cv = some b) :
    CallR X (.builtin "isinstance") (fun xs H Q => ∃ x t z hc d r, xs = [x, t] ∧ (∀ u, RelV t u → u = cv) ∧ StR g z H hc ∧ RelD g z d x ∧ isXD tb hc d = some r ∧ ∀ z' H' v, Ext z H z' H' → StR g z' H' hc → RelD g z' r v → Q v H') := by
  intro pins s σ H xs us Q I r h
  obtain ⟨x, t, z, hc, d, rr, rfl, hcv, st, rd, er, q⟩ := h
  cases r with
  | cons rx rs =>
    cases rs with
    | cons rt rs =>
      cases rs
      have ec := hcv _ rt
      subst ec
      cases rd with
      | ex hF =>
        rename_i c a
        obtain ⟨b, eb, rfl⟩ := Option.map_eq_some_iff.mp er
        obtain ⟨C, e⟩ := hT c b eb
        cases rx
        obtain ⟨⟨oe, vs, hget, hz, hv⟩, _, _⟩ := I.hok a _ (st.sub _ _ hF)
        have J : PySem.W.InstAt s.heap a oe (g.fa c) none := by
          obtain ⟨oc, od, oda, osl⟩ := oe
          obtain ⟨h1, h2⟩ := hz
          dsimp only at h1 h2 hv
          subst h1 h2 hv
          exact ⟨hget, rfl, rfl, trivial⟩
        exact PySem.W.kia_one (PySem.W.handS_kitx_exc C.hg C.hk C.hs C.hd C.ha C.hn C.ht C.hm) I.kIn J e (fun z => nomatch z) fun tk => ⟨.bl b, H, I.kept (t' := tk) fun _ _ z => z, rfl, q z H _ (.refl _ _) st (.bl b)⟩
      | _ => cases er
theorem e_isX {a b : Expr} {fa : Sl → Hc → Res D} {p pos : Pos} {tb : Nat → Option Bool} {cv : Value} {tv : V} (c : Ct X g W k) (ha : PE X a (tI g W fa)) (hb : PE X b (tC tv)) (hcv : ∀ u, RelV tv u → u = cv) (hm : X.mg "isinstance" = none)
    (hT : ∀ c b, tb c = some b → ExcC X.K (g.fa c) ∧ PySem.W.kitOne X.K (.ref (g.fa c)) cv = some b) (hg : Gl X "isinstance" := by rfl) (hs : starEach [a, b] X.env = (false, eval a X.env) :: starEach [b] X.env := by rfl) (hs2 : starEach [b] X.env = (false, eval b X.env) :: starEach [] X.env := by rfl) (he : (backTo pos (starEach [b] X.env)).any (·.1) = false := by rfl) :
    PE X (.Call (.Name "isinstance" p) [a, b] [] pos) (tI g W (unE (isXD tb) fa)) := by
  refine pe_imp (pe_callB (call_isA c.hK hT) hg hm (by decide +kernel) (pa_cons ha (pa_cons hb pa_nil hs2) hs) (by decide) (by decide) hs he) fun σ H Q ⟨z, sl, hc, hs, st, h⟩ => ?_
  refine tI.mono (OutE.thenE (f := fa) hs st h) fun v H1 ⟨z1, d1, hc1, x1, hs1, st1, r1, o1⟩ => ?_
  obtain ⟨rr, er, hq⟩ := o1.lift
  exact ⟨v, tv, z1, hc1, d1, rr, rfl, hcv, st1, r1, er, hq⟩
end
/-! ### try .. except x as n: a suite behind which the exception is kept -/
section
variable {X : Cx} {pins : List (Addr × Obj)} {σ : St} {H : Hp} {s : Shared}
theorem Inv.track {a : Addr} {o : Obj} {φ : Heap → Prop} (I : Inv X pins σ H s) (ha : s.heap.get? a = some o) (hn : H a = none) (h0 : X.s_0.heap.get? a = none) (nL : a ≠ X.env.locals) (hcell : ∀ v, o.data ≠ .cell v) (np : ∀ p ∈ X.pn ++ pins, p.1 ≠ a)
    (new : ObjOk X.prog X.w (upd H a (.ext φ)) s.heap a (.ext φ)) : Inv X pins σ (upd H a (.ext φ)) s := by
  have ne : ∀ b u, H b = some u → b ≠ a := fun b u e z => by rw [z, hn] at e; cases e
  refine ⟨I.ok, I.os, I.bare, ⟨I.base.keep, I.base.slot, fun b o e n hx => ?_, I.base.there, fun b xs e => ?_, fun b o u e => ?_, fun b ps e => ?_⟩, I.loc, I.cell, ?_, fun x c e => ?_, fun p hp => ?_, fun b u e => ?_, I.len⟩
  · rw [upd_ne (fun z => by rw [z, h0] at e; cases e)]; exact I.base.free b o e n hx
  · have q := I.base.tups b xs e
    rw [upd_ne (ne b _ q)]; exact q
  · have q := I.base.frzs b o u e
    rw [upd_ne (ne b _ q)]; exact q
  · obtain ⟨m, q⟩ := I.base.tbls b ps e
    exact ⟨m, by rw [upd_ne (ne b _ q)]; exact q⟩
  · rw [upd_ne (Ne.symm nL)]; exact I.free
  · obtain ⟨v, oc, hoc, hd⟩ := I.cell x c e
    rw [upd_ne (fun z => by rw [z, ha] at hoc; cases hoc; exact hcell _ hd)]
    exact I.freeC x c e
  · obtain ⟨e1, e2, e3⟩ := I.pin p hp
    exact ⟨e1, by rw [upd_ne (np p hp)]; exact e2, e3⟩
  · by_cases hb : b = a
    · subst hb; rw [upd_same] at e; cases e; exact new
    · rw [upd_ne hb] at e
      exact (I.hok b u e).stay (fun c v _ q => q) (fun c q => by rw [upd_ne (ne c _ q)]; exact q) fun c xs q => by rw [upd_ne (ne c _ q)]; exact q
end
def wKeep (K : PySem.W.Frag) (len : Nat) (c : Value) (i : Nat) (ts : Addr → TS) (Wout : WX) (D : Ends) : WX := fun cls d σ H =>
  ∃ b, PySem.W.exmOne K cls c = some b ∧ (b = true → d = none ∧ ∀ a, H a = none → σ.length = len → ts a { nx := fun σ' H' => D.nx (σ'.set i none) (upd H' a (ExA cls a)), rt := fun _ _ => False, bk := fun _ _ => False, ct := fun _ _ => False } (σ.set i (some (.ref a))) H) ∧
    (b = false → Wout cls d σ H)
section
variable {X : Cx} {x n : Str} {c : Value} {i : Nat} {body suite : List Stmt} {b₀ : Stmt} {np pos pos' : Pos} {tb : WX → TS} {ts : Addr → TS} {Wout : WX}
theorem ps_try_keep (hs : X.stack = X.env :: X.outer) (hf : X.env.frame = some X.env.locals) (hex : X.ex = []) (hN : X.N.Nodup) (hi : X.N[i]? = some n) (hln : X.env.kindOf n = some .local) (hc : Names X x c) (tk : Takes X Wout)
    (hb : ∀ (W : WX) (pn : List (Addr × Obj)) (xe : Value → Shared → Prop), Takes (X.tr pn xe) W → PassesOwn (model X.prog X.w) X.A X.env xe → PSs (X.tr pn xe) body (tb W))
    (hsu : ∀ (a : Addr) (pn : List (Addr × Obj)), PSs (X.suite a pn) (b₀ :: suite) (ts a)) :
    PS X (.Try body [.ExceptHandler (some (.Name x np)) (some n) (b₀ :: suite) pos'] [] [] pos) (fun D σ H => tb (wKeep X.K X.N.length c i ts Wout D) D σ H) := by
  refine ⟨fun pins s σ H D I h => ?_⟩
  have ok := I.ok
  have hfr : X.A.frames = some (X.env :: X.outer) := by rw [ok.frames, hs]
  have hloc : Loc X.env.scope n := .inl hln
  refine wpAny_Try_except ?_
  refine wpAny_mono ((hb (wKeep X.K X.N.length c i ts Wout D) (X.pn ++ pins) (fun e s₁ => wpAny (model X.prog X.w) X.A (noteFrame e X.env) (fun _ s₂ => wpAny (model X.prog X.w) X.A (setFlight e none) (fun _ s₃ =>
    wpAny (model X.prog X.w) X.A (handleBy e X.env [.ExceptHandler (some (.Name x np)) (some n) (b₀ :: suite) pos']) (SP X pins D) X.xe s₃) X.xe s₂) X.xe s₁) (fun u s' xx => ?_) PassesOwn.looking).run [] s σ H D (I.toTry _) h) (fun f s1 hsp => ?_) (fun e s1 he => he)
  · obtain ⟨a, B, sI, pins', σ', H', cls, d, rfl, J', nb, up, sky, na, os, ag, b, hb1, hyes, hno⟩ := xx
    have J : Inv X pins σ' H' sI := J'.ofTry ok
    have sky' : Sky B (X.env :: X.outer) a (Zc cls d) X.env.locals s'.heap := by rw [← hs]; exact sky
    show wpAny (model X.prog X.w) X.A (noteFrame (.ref a) X.env) _ _ _
    refine Sky.land Zc.steady hfr hf sky' fun h3 fl3 up3 => ?_
    have J3 : Inv X pins σ' H' { s' with heap := h3 } := J.landed nb fl3.1 (up.trans up3) os ag
    obtain ⟨oe3, vs3, he3, hz3, hd3⟩ := fl3.there
    have notFr : ∀ {h : Heap} {o : Obj} {vs : Array Value}, h.FunFrames B (X.env :: X.outer) → h.get? a = some o → o.data = .fields vs → a ∉ frs (X.env :: X.outer) := fun {h o vs} ff e dd hm => by
      obtain ⟨_, o', e', hnf⟩ := ff.mem hm
      rw [e] at e'; cases e'
      exact hnf _ dd
    have nfr := notFr fl3.2.2.1 he3 hd3
    have nL : a ≠ X.env.locals := fun z => nfr (List.mem_filterMap.mpr ⟨X.env, List.mem_cons_self, by rw [hf, z]⟩)
    have nF : a ∉ X.fs := fun hm => by
      obtain ⟨e, he, q⟩ := List.mem_filterMap.mp hm
      exact nfr (List.mem_filterMap.mpr ⟨e, List.mem_cons_of_mem _ he, q⟩)
    have Ba : B.get? a = none := fl3.2.1
    have notIn : ∀ o, sI.heap.get? a ≠ some o := fun o e => by
      have := nb a o e (by rw [hs]; exact nfr)
      rw [Ba] at this; cases this
    have h0 : X.s_0.heap.get? a = none := by
      cases e : X.s_0.heap.get? a with
      | none => rfl
      | some o =>
        obtain ⟨o', e'⟩ := J.base.there a o e (by rw [hex]; exact fun z => nomatch z)
        exact absurd e' (notIn o')
    have npn : ∀ p ∈ X.pn ++ pins, p.1 ≠ a := fun p hp z => by
      obtain ⟨e, _⟩ := J.pin p hp
      rw [z] at e
      exact notIn _ e
    have S3 := J3.suite he3 hd3 na nL nF
    refine wpAny_handleBy_cons (codeAny_handlers_test ?_) (by intro q; cases q)
    have LT : PySem.W.Looks (model X.prog X.w) h3 (typeOf (.ref a)) cls := fun A Q E s k q => wpAny_typeOf_ref (k _ _ he3) (by rw [hz3.1]; exact q)
    have LM := PySem.W.exm_one (M := model X.prog X.w) (J3.kIn) LT hb1
    have test : ∀ {Q : Value → Shared → Prop} {E : Value → Shared → Prop}, Q c { s' with heap := h3 } → wpAny (model X.prog X.w) (X.A.mark (some (.ref a))) (eval (.Name x np) X.env) Q E { s' with heap := h3 } := fun {Q E} q => by
      obtain ⟨hg, hdbg, hm | ⟨hm, hv, hnn⟩⟩ := hc
      · exact ld_glob (X := X.suite a ((a, oe3) :: (X.pn ++ pins))) S3 hg hm q hdbg
      · exact ld_blt (X := X.suite a ((a, oe3) :: (X.pn ++ pins))) S3 hg hm hv q hnn hdbg
    refine test (LM.here ?_)
    cases b with
    | true =>
      obtain ⟨rfl, hy2⟩ := hyes rfl
      refine codeAny_handlers_suite_as ?_
      refine HandSPX.lands_againZ fl3 fun h4 fl4 up4 => ?_
      have J4 : Inv X pins σ' H' { s' with heap := h4 } := J.landed nb fl4.1 ((up.trans up3).trans up4) os ag
      obtain ⟨oe4, vs4, he4, hz4, hd4⟩ := fl4.there
      have S4 := J4.suite he4 hd4 na nL nF
      refine store_ok (X := X.suite a ((a, oe4) :: (X.pn ++ pins))) (v := .ref a) S4 hN hi hloc rfl (fun s5 S5 => ?_) (.inr hln)
      refine wpAny_mono ((hsu a ((a, oe4) :: (X.pn ++ pins))).run [] s5 _ H' _ S5 (hy2 a na J.len)) (fun f s6 hsp => ?_) (fun _ _ z => False.elim z)
      cases f with
      | next =>
        obtain ⟨σ6, H6, S6, q6⟩ := hsp
        obtain ⟨p1, p2, p3, p4, p5⟩ := S6.pin (a, oe4) (List.mem_append_left _ List.mem_cons_self)
        have J6 : Inv X pins σ6 H6 s6 := S6.unsuite ok
        have J7 := Inv.track J6 (φ := fun h => ∃ (oe : Obj) (vs : Array Value), h.get? a = some oe ∧ Zc cls none oe ∧ oe.data = .fields vs) p1 p2 h0 nL p5 npn (exA_ok p1 hz4 hd4)
        exact gone_ok J7 hN hi hln fun s7 J8 => ⟨_, _, J8, q6⟩
      | brk => obtain ⟨_, _, _, q6⟩ := hsp; exact q6.elim
      | cont => obtain ⟨_, _, _, q6⟩ := hsp; exact q6.elim
      | ret u => obtain ⟨_, _, _, _, _, q6⟩ := hsp; exact q6.elim
    | false =>
      show wpAny _ X.A (handleBy (.ref a) X.env []) _ _ _
      refine wpAny_handleBy_nil ?_
      obtain ⟨k1, k2, k3, oe, vs, T, oT, ts', he, hz, hd, h1, hr⟩ := id fl3
      unfold PySem.passOn
      refine wpAny_bind (wpAny_field he hd h1 ?_)
      rw [if_neg (show ¬ ((Value.ref T == Value.none) = true) from by simp)]
      have fin : wpAny (model X.prog X.w) X.A (setFlight (.ref a) X.env.frame) (fun _ s4 => wpAny (model X.prog X.w) X.A (throw (.ref a) : Sem Flow) (SP X pins D) X.xe s4) X.xe { s' with heap := h3 } := by
        rw [hf]
        refine HandSPX.setFlight_upZ fl3 fun h4 hh4 up4 => wpAny_throw (tk _ _ ?_)
        exact ⟨a, B, sI, pins, σ', H', cls, d, rfl, J, nb, (up.trans up3).trans up4, .inr (.inr (by rw [hs]; exact hh4)), na, os, ag, hno rfl⟩
      first
        | exact wpAny_bind (wpAny_pure (wpAny_bind fin))
        | exact wpAny_bind fin
  · cases f with
    | next =>
      obtain ⟨σ', H', J', q⟩ := hsp
      exact wpAny_execs_nil ⟨σ', H', J'.ofTry ok, q⟩
    | brk =>
      obtain ⟨σ', H', J', q⟩ := hsp
      exact ⟨σ', H', J'.ofTry ok, q⟩
    | cont =>
      obtain ⟨σ', H', J', q⟩ := hsp
      exact ⟨σ', H', J'.ofTry ok, q⟩
    | ret u =>
      obtain ⟨v, σ', H', J', r, q⟩ := hsp
      exact ⟨v, σ', H', J'.ofTry ok, r, q⟩
end
/-- try: fb / except x as n (slot i): y (slot j) = n -/
def tryS (ck : Nat → Option Bool) (i j : Nat) (fb : Sl → Hc → RS) : Sl → Hc → RS := fun sl hc => match fb sl hc with
  | .exc c sl' hc' => (match ck c with
    | some true => .nx (((sl'.set i none).set j (some (.ex c))).set i none) hc'
    | some false => .exc c sl' hc'
    | none => .bad)
  | r => r
section
variable {X : Cx} {g : Gx} {W : WX} {k c0 : Nat} {ck : Nat → Option Bool} {x n y : Str} {body : List Stmt} {fb : Sl → Hc → RS} {np yp np2 ap pos pos' : Pos}
theorem Ct.tr (c : Ct X g W k) {W' : WX} {pn : List (Addr × Obj)} {xe : Value → Shared → Prop} (tk : Takes (X.tr pn xe) W') : Ct (X.tr pn xe) g W' k := ⟨c.hK, tk, c.calm, c.room, c.guards⟩
theorem s_try (i j : Nat) (ct : Ct X g W k) (hs : X.stack = X.env :: X.outer) (hf : X.env.frame = some X.env.locals) (hex : X.ex = []) (hN : X.N.Nodup) (hgC : X.mg x = some (.ref (g.fa c0))) (hck : ∀ c b, ck c = some b → PySem.W.exmOne X.K (.ref (g.fa c)) (.ref (g.fa c0)) = some b)
    (hb : ∀ (W' : WX) (pn : List (Addr × Obj)) (xe : Value → Shared → Prop), Ct (X.tr pn xe) g W' k → PassesOwn (model X.prog X.w) (X.tr pn xe).A (X.tr pn xe).env (X.tr pn xe).xe → PSs (X.tr pn xe) body (sI g W' fb))
    (hi : X.N[i]? = some n := by rfl) (hj : X.N[j]? = some y := by rfl) (hln : X.env.kindOf n = some .local := by rfl) (hly : Loc X.env.scope y := by first | exact Or.inl rfl | exact Or.inr rfl)
    (hg : Gl X x := by rfl) (hdb : (x == ("__debug__" : Str)) = false := by decide) (hd : (n == ("__debug__" : Str)) = false := by decide) (hcd : (n == ("__classdict__" : Str)) = false := by decide)
    (hw : ∀ a pn, swapsWith (.Name n np2) (some (.Name y yp)) ap.line (X.suite a pn).env = pure false := by intros; rfl) (hff : X.fn y = true ∨ X.env.scope.names.lookup y = some .local := by first | exact .inl rfl | exact .inr rfl | assumption) :
    PS X (.Try body [.ExceptHandler (some (.Name x np)) (some n) [.Assign [.Name y yp] (.Name n np2) ap] pos'] [] [] pos) (sI g W (tryS ck i j fb)) := by
  refine ps_imp (ps_try_keep (i := i) (c := .ref (g.fa c0)) (ts := fun a => tAsg (tVar i) (gName j)) (Wout := W) (tb := fun W' => sI g W' fb) hs hf hex hN hi hln ⟨hg, hdb, .inl hgC⟩ ct.tk (fun W' pn xe tk po => hb W' pn xe (ct.tr tk) po)
    (fun a pn => pss_one (ps_set (X := X.suite a pn) hN hj hly (pe_var (X := X.suite a pn) hi (.inl hln) hd hcd) (hw a pn) hff))) fun E σ H ⟨z, sl, hc, hsv, st, h⟩ => ?_
  refine ⟨z, sl, hc, hsv, st, ?_⟩
  unfold tryS at h
  cases e : fb sl hc with
  | exc c sl' hc' =>
    rw [e] at h
    intro z' H' σ' x' hs' st'
    dsimp only at h
    cases q : ck c with
    | none => rw [q] at h; exact h.elim
    | some b =>
      rw [q] at h
      cases b with
      | true =>
        refine ⟨true, hck c true q, fun _ => ⟨rfl, fun a ha hl => ?_⟩, fun z => nomatch z⟩
        obtain ⟨xx, ss⟩ := st'.alloc (o := ExA (.ref (g.fa c)) a) ha
        have il : i < σ'.length := by rw [hl]; exact (List.getElem?_eq_some_iff.mp hi).1
        have v1 := (hs'.ext xx).none i (some (.ref a))
        have v2 := (v1.set (RelD.ex (g := g) (show upd z'.F a _ a = _ from upd_same)) j).none i none
        exact ⟨.ref a, List.getElem?_set_self il, h _ _ _ (x'.trans xx) v2 ss⟩
      | false => exact ⟨false, hck c false q, (fun z => nomatch z), fun _ => h z' H' σ' x' hs' st'⟩
  | rt d hc' => rw [e] at h; exact h
  | nx sl' hc' => rw [e] at h; exact h
  | bk sl' hc' => rw [e] at h; exact h
  | ct sl' hc' => rw [e] at h; exact h
  | bad => rw [e] at h; exact h
end
end Bo

set_option Elab.async false
set_option linter.all false
set_option maxRecDepth 100000
set_option maxHeartbeats 4000000
set_option autoImplicit false
/-! Bo24: dict comprehensions, defs as values, x += e, starred items, repeats. -/
namespace Bo
open PySem PySem.Spec L2

/-! ### {k: v for ..}, keys ints and texts -/
def keyOf : D → Option Key
  | .int i => some (.inl i)
  | .str x => some (.inr x)
  | _ => none
def putKD (kvs : List (Key × D)) (k : Key) (v : D) : List (Key × D) :=
  if (kvs.any fun kv => decide (kv.1 = k)) = true then kvs.map (fun kv => if kv.1 = k then (kv.1, v) else kv) else kvs ++ [(k, v)]
def KR (g : Gx) (z : Fz) (a : List (Key × D)) (w : List (Key × V)) : Prop := Paired (fun (p : Key × D) (q : Key × V) => p.1 = q.1 ∧ RelD g z p.2 q.2) a w
theorem KR.mono {g : Gx} {z z' : Fz} (l : FLe z z') : ∀ {a : List (Key × D)} {w : List (Key × V)}, KR g z a w → KR g z' a w
  | _, _, .nil => .nil
  | _, _, .cons h t => .cons ⟨h.1, h.2.mono l⟩ (KR.mono l t)
theorem KR.any {g : Gx} {z : Fz} {k : Key} : ∀ {a : List (Key × D)} {w : List (Key × V)}, KR g z a w → (a.any fun kv => decide (kv.1 = k)) = w.any fun kv => decide (kv.1 = k)
  | _, _, .nil => rfl
  | _, _, .cons h t => by simp only [List.any_cons, h.1, KR.any t]
theorem KR.repl {g : Gx} {z : Fz} {k : Key} {d : D} {v : V} (r : RelD g z d v) : ∀ {a : List (Key × D)} {w : List (Key × V)}, KR g z a w → KR g z (a.map fun kv => if kv.1 = k then (kv.1, d) else kv) (w.map fun kv => if kv.1 = k then (kv.1, v) else kv)
  | _, _, .nil => .nil
  | p :: _, q :: _, .cons h t => by
    refine .cons ?_ (KR.repl r t)
    by_cases e : q.1 = k
    · have e' : p.1 = k := h.1.trans e
      simp only [if_pos e, if_pos e']; exact ⟨h.1, r⟩
    · have e' : ¬ p.1 = k := fun z => e (h.1.symm.trans z)
      simp only [if_neg e, if_neg e']; exact h
theorem KR.append {g : Gx} {z : Fz} : ∀ {a b : List (Key × D)} {w u : List (Key × V)}, KR g z a w → KR g z b u → KR g z (a ++ b) (w ++ u)
  | _, _, _, _, .nil, s => s
  | _, _, _, _, .cons h t, s => .cons h (KR.append t s)
theorem KR.put {g : Gx} {z : Fz} {k : Key} {d : D} {v : V} {a : List (Key × D)} {w : List (Key × V)} (h : KR g z a w) (r : RelD g z d v) : KR g z (putKD a k d) (putK w k v) := by
  unfold putKD putK
  rw [h.any (k := k)]
  by_cases e : (w.any fun kv => decide (kv.1 = k)) = true
  · rw [if_pos e, if_pos e]; exact h.repl r
  · rw [if_neg e, if_neg e]; exact h.append (.cons ⟨rfl, r⟩ .nil)
theorem KR.length {g : Gx} {z : Fz} {a : List (Key × D)} {w : List (Key × V)} (h : KR g z a w) : a.length = w.length := Paired.length h
theorem KR.rel {g : Gx} {z : Fz} {D0 : Addr} : ∀ {a : List (Key × D)} {w : List (Key × V)}, KR g z a w → ∃ xs, w = (a.map (·.1)).zip xs ∧ (a.map (·.1)).length = (a.map (·.2)).length ∧ RelDs g z (a.map (·.2)) xs
  | _, _, .nil => ⟨[], rfl, rfl, .nil⟩
  | p :: _, q :: _, .cons h t => by
    obtain ⟨xs, e1, e2, e3⟩ := KR.rel (D0 := D0) t
    refine ⟨q.2 :: xs, ?_, by simp, .cons h.2 e3⟩
    rw [List.map_cons, List.zip_cons_cons, e1, h.1]
def mapD (ft : D → Sl → Option Sl) (tt : Sl → Hc → Res Bool) (fk fv : Sl → Hc → Res D) (sl : Sl) : List D → List (Key × D) → Hc → Res (List (Key × D))
  | [], acc, hc => .ok acc hc
  | d :: ds, acc, hc => match ft d sl with
    | none => .bad
    | some sl1 => (tt sl1 hc).bind fun b hc1 => if b then (fk sl1 hc1).bind fun y hc2 => (fv sl1 hc2).bind fun x hc3 => (match keyOf y with
        | some k => if acc.length < sizeLine then mapD ft tt fk fv sl ds (putKD acc k x) hc3 else .bad
        | none => .bad) else mapD ft tt fk fv sl ds acc hc1
def dcE (vs : List Nat) (ft : D → Sl → Option Sl) (fi : Sl → Hc → Res (List D)) (tt : Sl → Hc → Res Bool) (fk fv : Sl → Hc → Res D) : Sl → Hc → Res D := fun sl hc => (fi sl hc).bind fun ds hc1 => match mapD ft tt fk fv (wipeS sl vs) ds [] hc1 with
  | .ok kvs hc2 => .ok (.dct (kvs.map (·.1)) (kvs.map (·.2))) hc2
  | _ => .bad
theorem dc_it {J : It} {n : Nat} {G : Hp → Prop} {Y : Nat → Hp → V → Hp → Prop} (w : Walk J n G Y) {g : TG} {tt : TT} {tk tv : TE} {vs : List Nat} {σ : St} {H1 : Hp} {D : Addr} {Qd : Hp → Prop} (Pv : Nat → Hp → Prop) (h0 : Pv 0 (upd H1 D (.dK []))) (hG : ∀ i H, i ≤ n → Pv i H → G H)
    (hs : ∀ i x H H', i < n → Pv i H → Y i H x H' → g x (wipe σ vs) H' fun σ2 H2 => wipe σ2 vs = wipe σ vs ∧ tt σ2 H2 fun b H3 =>
      if b = true then tk σ2 H3 fun y H4 => tv σ2 H4 fun z H5 => ∃ kvs k, y = kV k ∧ H5 D = some (.dK kvs) ∧ kvs.length < sizeLine ∧ Pv (i + 1) (upd H5 D (.dK (putK kvs k z))) else Pv (i + 1) H3) (hd : ∀ H, Pv n H → Qd H) :
    ∃ W : Nat → Nat → Hp → Prop, (∃ m, W 0 m (upd H1 D (.dK []))) ∧ ∀ i m H, W i m H →
      (J.stop i H ∧ Qd H) ∨ (J.go i H ∧ ∃ Nx : Hp → Prop, (∀ H', Nx H' → ∃ m', m' < m ∧ W (i + 1) m' H') ∧ ∀ x H', J.yld i H x H' → g x (wipe σ vs) H' fun σ2 H2 => wipe σ2 vs = wipe σ vs ∧ tt σ2 H2 fun b H3 =>
        if b = true then tk σ2 H3 fun y H4 => tv σ2 H4 fun z H5 => ∃ kvs k, y = kV k ∧ H5 D = some (.dK kvs) ∧ kvs.length < sizeLine ∧ Nx (upd H5 D (.dK (putK kvs k z))) else Nx H3) := by
  refine ⟨fun i m H => m = n - i ∧ i ≤ n ∧ Pv i H, ⟨n, by simp, Nat.zero_le _, h0⟩, ?_⟩
  rintro i m H ⟨rfl, hi, p⟩
  have q := hG i H hi p
  by_cases hlt : i < n
  · refine .inr ⟨w.goes i H hlt q, Pv (i + 1), fun H' p' => ⟨n - (i + 1), by omega, rfl, hlt, p'⟩, fun x H' y => hs i x H H' hlt p (w.yields i H x H' hlt q y)⟩
  · have e : i = n := by omega
    subst e
    exact .inl ⟨w.stops H q, hd H p⟩
theorem keyOf_rel {g : Gx} {z : Fz} {d : D} {v : V} {k : Key} (r : RelD g z d v) (e : keyOf d = some k) : v = kV k := by
  cases r with
  | int i => cases e; rfl
  | str x => cases e; rfl
  | _ => cases e
section
variable {X : Cx} {g : Gx} {W : WX} {kk : Nat}
theorem read_dc {vs : List Nat} {ft : D → Sl → Option Sl} {fi : Sl → Hc → Res (List D)} {tt : Sl → Hc → Res Bool} {fk fv : Sl → Hc → Res D} {σ : St} {H : Hp} {Q : VK} (h : tI g W (dcE vs ft fi tt fk fv) σ H Q) :
    tDc (iI g W fi) (gI g vs ft) (bI g W0 tt) (tI g W0 fk) (tI g W0 fv) vs σ H Q := by
  obtain ⟨z, sl, hc, hs, s, h⟩ := h
  refine ⟨z, sl, hc, hs, s, ?_⟩
  unfold dcE at h
  revert h
  cases fi sl hc with
  | bad => exact fun h => h
  | exc c hc1 => exact fun h => h
  | ok ds hc1 =>
    intro h z1 H1 x1 hs1 st1 J G Y w hG hY D hD
    simp only [Res.bind] at h
    cases e : mapD ft tt fk fv (wipeS sl vs) ds [] hc1 with
    | bad => rw [e] at h; exact h.elim
    | exc c hc2 => rw [e] at h; exact h.elim
    | ok kvs hcE =>
      rw [e] at h
      simp only at h
      have apD : Apart z1 D := StR.apart (H := H1) (by rw [del_none hD]; exact st1)
      refine dc_it w (fun i H' => ∃ z' hc' acc ws, H' D = some (.dK ws) ∧ KR g z' acc ws ∧ Ext z1 H1 z' (del H' D) ∧ StR g z' (del H' D) hc' ∧ Apart z' D ∧ mapD ft tt fk fv (wipeS sl vs) (ds.drop i) acc hc' = .ok kvs hcE) ?_ ?_ ?_ ?_
      · refine ⟨z1, hc1, [], [], upd_same, .nil, ?_, ?_, apD, e⟩
        · rw [del_of_upd, del_none hD]; exact .refl _ _
        · rw [del_of_upd, del_none hD]; exact st1
      · rintro i H' hi ⟨z', hc', acc, ws, h1, h2, h3, h4, h5, h6⟩
        exact hG z' H' hc' h3.fill h4.fill
      · rintro i x H' H2 hi ⟨z', hc', acc, ws, h1, h2, h3, h4, h5, h6⟩ y
        obtain ⟨z2, d, x2, s2, hd, rd⟩ := hY i H' x H2 z' hc' hi h3.fill h4.fill y
        obtain ⟨k2, a2, D2⟩ := x2.hole h1 h5
        have ed : ds.drop i = d :: ds.drop (i + 1) := by
          rw [List.drop_eq_getElem_cons hi]
          rw [List.getElem?_eq_getElem hi] at hd
          cases hd
          rfl
        rw [ed] at h6
        unfold mapD at h6
        cases e1 : ft d (wipeS sl vs) with
        | none => rw [e1] at h6; cases h6
        | some sl1 =>
          rw [e1] at h6
          have svw := ((hs1.ext (h3.fill)).ext x2).wipe vs
          refine ⟨z2, wipeS sl vs, hc', d, sl1, svw, s2, rd, e1, fun σ2 sv2 w2 => ⟨w2.trans wipe_wipe, z2, sl1, hc', sv2, s2, ?_⟩⟩
          simp only at h6
          revert h6
          cases tt sl1 hc' with
          | bad => exact fun h => nomatch h
          | exc c hcb => exact fun h => nomatch h
          | ok b hcb =>
            intro h6 z3 H3 x3 s3
            obtain ⟨k3, a3, D3⟩ := x3.hole D2 a2
            cases b with
            | false =>
              simp only [Bool.false_eq_true, if_false]
              simp only [Res.bind, Bool.false_eq_true, if_false] at h6
              exact ⟨z3, hcb, acc, ws, D3, (h2.mono x2.le).mono x3.le, h3.trans (k2.trans k3), s3.hole a3, a3, h6⟩
            | true =>
              simp only [if_true]
              simp only [Res.bind, if_true] at h6
              refine ⟨z3, sl1, hcb, sv2.ext x3, s3, ?_⟩
              revert h6
              cases fk sl1 hcb with
              | bad => exact fun h => nomatch h
              | exc c hcb => exact fun h => nomatch h
              | ok yd hcy =>
                intro h6 z4 H4 v x4 s4 r4
                obtain ⟨k4, a4, D4⟩ := x4.hole D3 a3
                simp only at h6
                refine ⟨z4, sl1, hcy, (sv2.ext x3).ext x4, s4, ?_⟩
                revert h6
                cases fv sl1 hcy with
                | bad => exact fun h => nomatch h
                | exc c hcb => exact fun h => nomatch h
                | ok xd hcx =>
                  intro h6 z5 H5 u x5 s5 r5
                  obtain ⟨k5, a5, D5⟩ := x5.hole D4 a4
                  simp only at h6
                  cases ek : keyOf yd with
                  | none => rw [ek] at h6; cases h6
                  | some k =>
                    rw [ek] at h6
                    simp only at h6
                    split at h6
                    · rename_i hlen
                      have hk := keyOf_rel r4 ek
                      have h2' := (((h2.mono x2.le).mono x3.le).mono x4.le).mono x5.le
                      refine ⟨ws, k, hk, D5, by rw [← h2'.length]; exact hlen, z5, hcx, putKD acc k xd, putK ws k u, upd_same, h2'.put r5, ?_, ?_, a5, h6⟩
                      · rw [del_of_upd]; exact h3.trans (k2.trans (k3.trans (k4.trans k5)))
                      · rw [del_of_upd]; exact s5.hole a5
                    · cases h6
      · rintro H' ⟨z', hc', acc, ws, h1, h2, h3, h4, h5, h6⟩
        rw [List.drop_length] at h6
        cases h6
        obtain ⟨x2, s2⟩ := h4.alloc (o := .dK ws) (p := D) del_same
        have eH : upd (del H' D) D (.dK ws) = H' := by
          rw [del_upd]
          funext a
          by_cases ea : a = D
          · subst ea; rw [upd_same, h1]
          · rw [upd_ne ea]
        rw [eH] at x2 s2
        obtain ⟨xs, e1, e2, e3⟩ := KR.rel (D0 := D) (h2.mono x2.le)
        exact h _ _ _ (x1.trans (h3.trans x2)) s2 (.dct (by show upd z'.F D _ D = _; rw [upd_same, e1]) e2 e3)
theorem e_dc {kx vx tg iter : Expr} {ifs : List Expr} {scope : Scope} {pos : Pos} {ft : D → Sl → Option Sl} {fi : Sl → Hc → Res (List D)} {tt : Sl → Hc → Res Bool} {fk fv : Sl → Hc → Res D} (own : List (Str × Nat)) (c : Ct X g W kk) (hN : X.N.Nodup) (hi : PI X tg iter (iI g W fi))
    (ok : blkC X.N X.env.scope scope own = true)
    (hg : ∀ (s : Shared) (H : Hp) (C : Addr) (cl : List (Str × Addr)) (fp : List Addr), PG (X.blk s H scope (compEnvC scope cl C X.env) fp) tg (gI g (own.map (·.2)) ft))
    (ht : ∀ (s : Shared) (H : Hp) (C : Addr) (cl : List (Str × Addr)) (fp : List Addr), PTs (X.blk s H scope (compEnvC scope cl C X.env) fp) ifs (bI g W0 tt))
    (hk : ∀ (s : Shared) (H : Hp) (C : Addr) (cl : List (Str × Addr)) (fp : List Addr), PE (X.blk s H scope (compEnvC scope cl C X.env) fp) kx (tI g W0 fk))
    (he : ∀ (s : Shared) (H : Hp) (C : Addr) (cl : List (Str × Addr)) (fp : List Addr), PE (X.blk s H scope (compEnvC scope cl C X.env) fp) vx (tI g W0 fv)) (hs : ∀ x, foldedSetIterable iter X.env x = pure x := by intro _; rfl) :
    PE X (.DictComp kx vx [⟨tg, iter, ifs, 0⟩] scope pos) (tI g W (dcE (own.map (·.2)) ft fi tt fk fv)) :=
  pe_imp (pe_dc (own := own) c.calm hN hi (blkOk_by ok) hg ht hk he hs) fun _ _ _ => read_dc
end
/-- len, of a dict, too -/
def lenX (hc : Hc) (ds : List D) : Option D := match ds with
  | [.dct ks _] => some (.int ks.length)
  | ds => lenD hc ds
theorem b_lenX {X : Cx} {g : Gx} {W : WX} {k : Nat} (c : Ct X g W k) : CallR X (.builtin "len") (rA g lenX) := by
  intro pins s σ H xs us Q I r h
  obtain ⟨z, hc, ds, rr, st, rd, er, q⟩ := h
  have other : lenD hc ds = some rr → wpAny (model X.prog X.w) X.A (call (.builtin "len") us) (EP X pins σ Q) X.xe s := fun e => b_len c pins s σ H xs us Q I r ⟨z, hc, ds, rr, st, rd, e, q⟩
  cases rd with
  | nil => exact other er
  | cons h t =>
    cases t with
    | cons _ _ => exact other (by cases h <;> exact er)
    | nil =>
      cases h with
      | dct hF hl hr =>
        rename_i a ks xs ds
        cases er
        refine call_lenD pins s σ H _ us Q I r ⟨a, ks.zip xs, rfl, st.sub _ _ hF, ?_⟩
        have e : (ks.zip xs).length = ks.length := by rw [List.length_zip, hl, hr.length]; simp
        rw [e]
        exact q z H _ (.refl _ _) st (.int _)
      | _ => exact other er
/-! ### defs as values, and their calls -/
theorem e_gfn {X : Cx} {g : Gx} {W : WX} {x : Str} {pos : Pos} (i : Nat) (hm : X.mg x = some (.ref (g.fa i))) (hg : Gl X x := by rfl) (hd : (x == ("__debug__" : Str)) = false := by decide) : PE X (.Name x pos) (tI g W (cE (.fn i))) :=
  e_gcs (v := .ref (g.fa i)) hm rfl (fun _ => .fn i) hg hd
def clE (i : Nat) (dsp : Nat → Option (List D → Hc → Res D)) (fs : Sl → Hc → Res (List D)) : Sl → Hc → Res D := fun sl hc => match sl[i]? with
  | some (some (.fn j)) => (match dsp j with
    | some cl => (fs sl hc).bind cl
    | none => .bad)
  | _ => .bad
theorem e_callL {X : Cx} {g : Gx} {W : WX} {k : Nat} {x : Str} {e : Expr} {es : List Expr} {fs : Sl → Hc → Res (List D)} {dsp : Nat → Option (List D → Hc → Res D)} {p pos : Pos} (i : Nat) (ct : Ct X g W k)
    (F : ∀ j cl, dsp j = some cl → FnV X.prog X.w X.K X.mg X.base g k (g.fa j) cl ∧ PySem.W.keepIn X.K (.ref (g.fa j)) = true) (ha : PA X (e :: es) (aI g W fs)) (hN : X.N[i]? = some x := by rfl) (hv : Vis X.env.scope x := by first | exact Or.inl rfl | exact Or.inr (Or.inl rfl) | exact Or.inr (Or.inr rfl))
    (hdb : (x == ("__debug__" : Str)) = false := by decide) (hcd : (x == ("__classdict__" : Str)) = false := by decide)
    (he : starEach (e :: es) X.env = (false, eval e X.env) :: starEach es X.env := by rfl) (hpl : (backTo pos (starEach es X.env)).any (·.1) = false := by rfl) : PE X (.Call (.Name x p) (e :: es) [] pos) (tI g W (clE i dsp fs)) := by
  refine ⟨fun pins s σ H Q I ⟨z, sl, hc, hs, st, h⟩ => ?_⟩
  unfold clE at h
  cases e1 : sl[i]? with
  | none => rw [e1] at h; exact h.elim
  | some o =>
    cases o with
    | none => rw [e1] at h; exact h.elim
    | some d =>
      cases d with
      | fn j =>
        rw [e1] at h
        simp only at h
        cases e2 : dsp j with
        | none => rw [e2] at h; exact h.elim
        | some cl =>
          rw [e2] at h
          simp only at h
          obtain ⟨FV, hk⟩ := F j cl e2
          obtain ⟨v, h1, h2⟩ := hs.val i _ e1
          cases h2
          refine wpAny_Call_Name_kw (thn ((pe_var (pos := p) hN hv hdb hcd).run pins s σ H (fun v H1 => v = .ref (g.fa j) ∧ H1 = H) I ⟨.ref (g.fa j), h1, rfl, rfl⟩) fun u s1 ⟨v, H1, I1, r1, q1⟩ => ?_)
          obtain ⟨rfl, rfl⟩ := q1
          cases r1
          refine PySem.W.callWith_K (h₀ := X.base) I.ok.mod.kin hk (thn (ha.run pos pins s1 σ _ _ I1 (OutE.thenA (f := fs) hs st h)) fun us s2 ⟨vs, H2, I2, r, z2, ds, hc2, x2, hs2, st2, rd, o2⟩ => ⟨I2.kIn, ?_⟩) he hpl
          exact run_fnV FV ct I2 r st2 rd o2
      | _ => rw [e1] at h; exact h.elim
/-! ### x op= e, ints -/
def augS (i : Nat) (op : Int → Int → Int) (fe : Sl → Hc → Res D) : Sl → Hc → RS := fun sl hc => match sl[i]? with
  | some (some (.int a)) => (fe sl hc).toS sl fun d hc1 => (match d with
    | .int b => .nx (sl.set i (some (.int (op a b)))) hc1
    | _ => .bad)
  | _ => .bad
theorem s_aug {X : Cx} {g : Gx} {W : WX} {x : Str} {e : Expr} {fe : Sl → Hc → Res D} {o : Operator} {op : Int → Int → Int} {p2 pos : Pos} (i : Nat) (hN : X.N.Nodup) (ho : PIp X o (ipI op)) (he : PE X e (tI g W fe)) (hi : X.N[i]? = some x := by rfl) (hx : Loc X.env.scope x := by first | exact Or.inl rfl | exact Or.inr rfl)
    (hf : X.fn x = true ∨ X.env.scope.names.lookup x = some .local := by first | exact .inl rfl | exact .inr rfl | assumption) : PS X (.AugAssign (.Name x p2) o e pos) (sI g W (augS i op fe)) := by
  refine ps_imp (ps_aug hN hi hx he ho hf) fun E σ H ⟨z, sl, hc, hs, st, h⟩ => ?_
  unfold augS at h
  cases e1 : sl[i]? with
  | none => rw [e1] at h; exact h.elim
  | some o =>
    cases o with
    | none => rw [e1] at h; exact h.elim
    | some d =>
      cases d with
      | int a =>
        rw [e1] at h
        simp only at h
        obtain ⟨v, h1, h2⟩ := hs.val i _ e1
        cases h2
        refine ⟨.int a, h1, ?_⟩
        refine tI.mono (OutS.thenE (f := fe) hs st h) fun v2 H2 ⟨z2, d2, hc2, x2, hs2, st2, r2, o2⟩ => ?_
        cases r2 with
        | int b => exact ⟨a, b, rfl, rfl, o2 z2 H2 _ (.refl _ _) (hs2.set (.int _) i) st2⟩
        | _ => exact o2.elim
      | _ => rw [e1] at h; exact h.elim
/-! ### *e among items -/
def seqD (hc : Hc) : D → Option (List D)
  | .tup ds => some ds
  | d => hc.lst? d
def sA (fa : Sl → Hc → Res D) (fr : Sl → Hc → Res (List D)) : Sl → Hc → Res (List D) := fun sl hc => (fa sl hc).bind fun d hc1 => match seqD hc1 d with
  | some xs => (fr sl hc1).bind fun ds hc2 => .ok (xs ++ ds) hc2
  | none => .bad
theorem a_star {X : Cx} {g : Gx} {W : WX} {k : Nat} {e : Expr} {es : List Expr} {fa : Sl → Hc → Res D} {fs : Sl → Hc → Res (List D)} {p : Pos} (c : Ct X g W k) (ha : PE X e (tI g W fa)) (hr : PA X es (aI g W fs)) (hs : starEach (.Starred e p :: es) X.env = (true, eval e X.env) :: starEach es X.env := by rfl) :
    PA X (.Starred e p :: es) (aI g W (sA fa fs)) := by
  refine pa_imp (StX.pa_star ha hr hs) fun σ H Q ⟨z, sl, hc, hs, st, h⟩ => ?_
  refine tI.mono (OutA.thenE (f := fa) hs st h) fun v H1 ⟨z1, d1, hc1, x1, hs1, st1, r1, o1⟩ => ?_
  have fin : ∀ (a : Addr) (xs : List V) (ds : List D), v = .ref a → (SqT X.K H1 a xs ∨ SqL X.K H1 a xs) → RelDs g z1 ds xs → seqD hc1 d1 = some ds → ∃ p xs, v = V.ref p ∧ (SqT X.K H1 p xs ∨ SqL X.K H1 p xs) ∧ aI g W fs σ H1 fun ys H2 => Q (xs ++ ys) H2 := fun a xs ds ev hq rl es => by
    rw [es] at o1
    refine ⟨a, xs, ev, hq, aI.mono (OutA.thenA (f := fs) hs1 st1 o1) fun ws H2 ⟨z2, d2, hc2, x2, hs2, st2, r2, o2⟩ => ?_⟩
    exact o2 z2 H2 _ (.refl _ _) st2 ((rl.mono x2.le).append r2)
  cases e : seqD hc1 d1 with
  | none => rw [e] at o1; exact o1.elim
  | some ds =>
    cases d1 with
    | tup es =>
      cases e
      obtain ⟨a, xs, rfl, hq, rl⟩ := st1.tuple r1
      exact fin a xs _ rfl (.inl (by rw [c.hK]; exact hq)) rl rfl
    | _ =>
      have q0 := fun h => st1.list (ds := ds) h r1
      obtain ⟨a, xs, rfl, hq, rl⟩ := q0 e
      exact fin a xs _ rfl (.inr (by rw [c.hK]; exact hq)) rl e
/-! ### sequences repeated -/
theorem RelDs.rep {g : Gx} {z : Fz} {ds : List D} {xs : List V} (r : RelDs g z ds xs) : ∀ n : Nat, RelDs g z (List.replicate n ds).flatten (List.replicate n xs).flatten
  | 0 => .nil
  | n + 1 => by rw [List.replicate_succ, List.replicate_succ, List.flatten_cons, List.flatten_cons]; exact r.append (RelDs.rep r n)
/-- a text repeated -/
def mulT (hc : Hc) (d e : D) : Option D := match d, e with
  | .str x, .int n => if decide (2 ≤ n) && (decide (n ≤ 100000) && (decide (1 ≤ x.length) && decide (x.length ≤ 100))) then some (.str ⟨⟨(List.replicate n.toNat x.cps.toList).flatten⟩⟩) else mulX hc (.str x) (.int n)
  | d, e => mulX hc d e
theorem fold_rep (a : Array Nat) : ∀ (n : Nat) (acc : Array Nat), (List.replicate n a).foldl (· ++ ·) acc = ⟨acc.toList ++ (List.replicate n a.toList).flatten⟩
  | 0, acc => by simp
  | n + 1, acc => by
    rw [List.replicate_succ, List.foldl_cons, fold_rep a n (acc ++ a), List.replicate_succ, List.flatten_cons]
    simp
theorem o_mulT {X : Cx} {g : Gx} : OpR X (binaryOp .Mult) (rP g mulT) := by
  intro pins s σ H x y v u Q I rx ry ⟨z, hc, d, e, r, st, r1, r2, er, q⟩
  have other : mulX hc d e = some r → wpAny (model X.prog X.w) X.A (binaryOp .Mult v u) (EP X pins σ Q) X.xe s := fun e' => o_mulX pins s σ H x y v u Q I rx ry ⟨z, hc, d, e, r, st, r1, r2, e', q⟩
  cases r1 with
  | str t =>
    cases r2 with
    | int n =>
      simp only [mulT] at er
      split at er
      · rename_i hh
        simp only [Bool.and_eq_true, decide_eq_true_eq] at hh
        obtain ⟨h1, h2, h3, h4⟩ := hh
        cases er
        obtain ⟨tk, rfl⟩ := rx
        obtain ⟨tk2, rfl⟩ := ry
        have hl : t.length * n.toNat ≤ 100 * 100000 := Nat.mul_le_mul h4 (by omega)
        refine P.mul_str (by simp; omega) (fun _ _ => ?_) (fun _ _ => ?_) ?_
        · have : (100 : Int) ≤ (2 ^ 63 - 1) / n := by
            rw [Int.le_ediv_iff_mul_le (by omega)]
            omega
          omega
        · show decide (t.length * n.toNat > sizeLine) = false
          rw [sizeLine_eq]
          exact decide_eq_false (by omega)
        · rw [if_neg (by omega), if_neg (by simp; omega), fold_rep]
          refine ⟨?_, ⟨.str _, H, I.tok _, ⟨_, rfl⟩, ?_⟩⟩
          · show _ ≤ sizeLine
            rw [sizeLine_eq]
            have e1 : (List.replicate n.toNat t.cps.toList).flatten.length = n.toNat * t.cps.toList.length := by simp [List.length_flatten]
            have e2 : (⟨⟨(#[] : Array Nat).toList ++ (List.replicate n.toNat t.cps.toList).flatten⟩⟩ : Str).length = n.toNat * t.length := by
              show (⟨(#[] : Array Nat).toList ++ (List.replicate n.toNat t.cps.toList).flatten⟩ : Array Nat).size = _
              rw [List.size_toArray, List.length_append, e1]
              simp [Str.length]
            rw [e2, Nat.mul_comm]
            omega
          · have e0 : (#[] : Array Nat).toList ++ (List.replicate n.toNat t.cps.toList).flatten = (List.replicate n.toNat t.cps.toList).flatten := by simp
            rw [e0]
            exact plain st q (.str _)
      · exact other er
    | _ => exact other er
  | _ => exact other (by first | exact er | (cases r2 <;> exact er))
def repD (hc : Hc) : D → D → Option D
  | .tup ds, .int k => if !ds.isEmpty && (decide (2 ≤ k) && (decide (k ≤ 1000) && decide (ds.length ≤ 1000))) then some (.tup (List.replicate k.toNat ds).flatten) else none
  | d, e => mulT hc d e
theorem o_rep {X : Cx} {g : Gx} {W : WX} {k : Nat} (c : Ct X g W k) : OpR X (binaryOp .Mult) (rP g repD) := by
  intro pins s σ H x y u v Q I r1 r2 h
  obtain ⟨z, hc, d, e, r, st, rx, ry, er, q⟩ := h
  have other : mulT hc d e = some r → wpAny (model X.prog X.w) X.A (binaryOp .Mult u v) (EP X pins σ Q) X.xe s := fun e' => o_mulT pins s σ H x y u v Q I r1 r2 ⟨z, hc, d, e, r, st, rx, ry, e', q⟩
  cases rx with
  | tup h1 q1 =>
    cases ry with
    | int i =>
      simp only [repD] at er
      split at er
      · rename_i hh
        simp only [Bool.and_eq_true, decide_eq_true_eq, Bool.not_eq_true'] at hh
        cases er
        refine op_repT pins s σ H _ _ u v Q I r1 r2 ⟨_, i, _, rfl, rfl, by rw [c.hK]; exact SqT.mono st.sub h1, ?_, hh.2.1, hh.2.2.1, by rw [← q1.length]; exact hh.2.2.2, fun p hp => ?_⟩
        · intro e0
          subst e0
          cases q1
          simp at hh
        · obtain ⟨z2, x2, s2, rr⟩ := st.newTup hp (q1.rep i.toNat)
          exact q _ _ _ x2 s2 rr
      · cases er
    | _ => exact other er
  | _ => exact other (by first | exact er | (cases ry <;> exact er))
/-- [a, ..] * n -/
def repE (fs : Sl → Hc → Res (List D)) (fb : Sl → Hc → Res D) : Sl → Hc → Res D := fun sl hc => (fs sl hc).bind fun ds hc1 => if ds.length ≤ sizeLine then (fb sl hc1).bind fun b hc2 => (match b with
  | .int k => if decide (-(2 ^ 63) ≤ k) && (decide (k < 2 ^ 63) && decide (ds.length * k.toNat ≤ sizeLine)) then .ok (.lst (List.replicate k.toNat ds).flatten) hc2 else .bad
  | _ => .bad) else .bad
theorem e_rep {X : Cx} {g : Gx} {W : WX} {es : List Expr} {b : Expr} {fs : Sl → Hc → Res (List D)} {fb : Sl → Hc → Res D} {p2 pos : Pos} (h : PA X es (aI g W fs)) (hb : PE X b (tI g W fb)) : PE X (.BinOp (.List es p2) .Mult b pos) (tI g W (repE fs fb)) := by
  refine pe_imp (pe_op op_rep (pe_lst h) hb) fun σ H Q ⟨z, sl, hc, hs, st, h⟩ => ?_
  refine aI.mono (OutE.thenA (f := fs) hs st h) fun vs H1 ⟨z1, ds, hc1, x1, hs1, st1, r1, o1⟩ => ?_
  by_cases hl : ds.length ≤ sizeLine
  · rw [if_pos hl] at o1
    refine ⟨by rw [← r1.length]; exact hl, fun p hp => ?_⟩
    obtain ⟨x2, s2⟩ := st1.side (o := .lst vs) hp
    refine tI.mono (OutE.thenE (f := fb) (hs1.ext x2) s2 (OutE.ext o1 x2)) fun v H3 ⟨z3, d3, hc3, x3, hs3, st3, r3, o3⟩ => ?_
    cases r3 with
    | int k =>
      dsimp only at o3
      split at o3
      · rename_i hh
        simp only [Bool.and_eq_true, decide_eq_true_eq] at hh
        have hp3 : H3 p = some (.lst vs) := x3.keep p _ upd_same fun n e => by
          obtain ⟨u, hu⟩ := st1.live n p e
          rw [hp] at hu; cases hu
        refine ⟨p, k, vs, rfl, rfl, hp3, hh.1, hh.2.1, by rw [← r1.length]; exact hh.2.2, fun q hq => ?_⟩
        obtain ⟨z4, x4, s4, r4⟩ := st3.newLst hq (((r1.mono x2.le).mono x3.le).rep k.toNat)
        exact o3 _ _ _ x4 s4 r4
      · exact o3.elim
    | _ => exact o3.elim
  · rw [if_neg hl] at o1
    exact o1.elim
end Bo

set_option Elab.async false
set_option linter.all false
set_option maxRecDepth 100000
set_option maxHeartbeats 4000000
set_option autoImplicit false
/-! Bo25: what a translated text with classes leans on. -/
namespace Bo
open PySem PySem.Spec L2

def clsBody (s : Stmt) : List Stmt := match s with
  | .ClassDef _ _ _ b _ _ _ _ _ _ _ => b
  | _ => []
def mthOf (s : Stmt) (j : Nat) : Stmt := (clsBody s).getD j (.Pass ⟨0, 0, 0, 0⟩)
/-- a method of the class c -/
def MthD (K : PySem.W.Frag) (g : Gx) (c : Nat) (m qual : Str) (s : Stmt) : Prop := ∃ f fd, FunD K m qual (defArgs s) (defBody s) (defScope s) [] [] f fd ∧ Cls K (g.fa c) ∧ Meth K (g.fa c) m f
/-- a class that is made by its own __init__ -/
def MkD (K : PySem.W.Frag) (mg : Str → Option Value) (g : Gx) (c : Nat) (x m qual : Str) (s : Stmt) : Prop := ∃ f fd, FunD K m qual (defArgs s) (defBody s) (defScope s) [] [] f fd ∧ Mk K (g.fa c) f ∧ mg x = some (.ref (g.fa c))
section
variable {P : Program} {w : World} {K : PySem.W.Frag} {mg : Str → Option Value} {base : Heap} {g : Gx} {k c : Nat} {x m qual : Str} {N ps : List Str} {s : Stmt} {fb : Sl → Hc → RS}
theorem FnM.of (F : MthD K g c m qual s) (S : FnScope N ps (defScope s)) (hgK : K = g.K)
    (hbn : ∀ (kV doc pm : Value) (an : Option Addr) (cdv ct : Value) (us : List Value), us.length = ps.length → bindArgs (PySem.W.fnOf m qual (defArgs s) (defBody s) (defScope s) .none kV doc pm an cdv ct) ⟨us, []⟩ = pure (ps.zip us))
    (hb : ∀ (f : Addr) (cdv : Value) (A : Around) (outer : List Env) (sh : Shared) (H : Hp) (E : XK), Ct (cxB P w K mg base N qual (defScope s) f cdv A outer sh H E) g (fun cls d _ H => E cls d H) k → PassesOwn (model P w) (cxB P w K mg base N qual (defScope s) f cdv A outer sh H E).A (cxB P w K mg base N qual (defScope s) f cdv A outer sh H E).env (cxB P w K mg base N qual (defScope s) f cdv A outer sh H E).xe →
      PSs (cxB P w K mg base N qual (defScope s) f cdv A outer sh H E) (defBody s) (sI g (fun cls d _ H => E cls d H) fb)) :
    FnM P w K mg base g (k + 1) c m (fnR ps.length N.length fb) := by
  obtain ⟨f, fd, F, hC, hM⟩ := F
  exact ⟨f, (fn_body F S hgK (hb f)).v (F.bindsN hbn), hC, hM⟩
theorem FnM.star {pv : Str} (F : MthD K g c m qual s) (S : FnScope N (ps ++ [pv]) (defScope s)) (hgK : K = g.K)
    (hbn : ∀ (kV doc pm : Value) (an : Option Addr) (cdv ct : Value) (us rest : List Value), us.length = ps.length → bindArgs (PySem.W.fnOf m qual (defArgs s) (defBody s) (defScope s) .none kV doc pm an cdv ct) ⟨us ++ rest, []⟩ = (newTuple rest >>= fun t => pure (ps.zip us ++ [(pv, t)])))
    (hb : ∀ (f : Addr) (cdv : Value) (A : Around) (outer : List Env) (sh : Shared) (H : Hp) (E : XK), Ct (cxB P w K mg base N qual (defScope s) f cdv A outer sh H E) g (fun cls d _ H => E cls d H) k → PassesOwn (model P w) (cxB P w K mg base N qual (defScope s) f cdv A outer sh H E).A (cxB P w K mg base N qual (defScope s) f cdv A outer sh H E).env (cxB P w K mg base N qual (defScope s) f cdv A outer sh H E).xe →
      PSs (cxB P w K mg base N qual (defScope s) f cdv A outer sh H E) (defBody s) (sI g (fun cls d _ H => E cls d H) fb)) :
    FnM P w K mg base g (k + 1) c m (fnStar ps.length N.length fb) := by
  obtain ⟨f, fd, F, hC, hM⟩ := F
  exact ⟨f, FnV.star F S hgK hbn (hb f), hC, hM⟩
theorem FnM.bad (F : MthD K g c m qual s) : FnM P w K mg base g k c m badC := by
  obtain ⟨f, fd, F, hC, hM⟩ := F
  exact ⟨f, .bad, hC, hM⟩
theorem FnK.of (F : MkD K mg g c x m qual s) (S : FnScope N ps (defScope s)) (hgK : K = g.K)
    (hbn : ∀ (kV doc pm : Value) (an : Option Addr) (cdv ct : Value) (us : List Value), us.length = ps.length → bindArgs (PySem.W.fnOf m qual (defArgs s) (defBody s) (defScope s) .none kV doc pm an cdv ct) ⟨us, []⟩ = pure (ps.zip us))
    (hb : ∀ (f : Addr) (cdv : Value) (A : Around) (outer : List Env) (sh : Shared) (H : Hp) (E : XK), Ct (cxB P w K mg base N qual (defScope s) f cdv A outer sh H E) g (fun cls d _ H => E cls d H) k → PassesOwn (model P w) (cxB P w K mg base N qual (defScope s) f cdv A outer sh H E).A (cxB P w K mg base N qual (defScope s) f cdv A outer sh H E).env (cxB P w K mg base N qual (defScope s) f cdv A outer sh H E).xe →
      PSs (cxB P w K mg base N qual (defScope s) f cdv A outer sh H E) (defBody s) (sI g (fun cls d _ H => E cls d H) fb)) :
    FnK P w K mg base g (k + 1) c x (fnR ps.length N.length fb) := by
  obtain ⟨f, fd, F, hM, hm⟩ := F
  exact ⟨f, (fn_body F S hgK (hb f)).v (F.bindsN hbn), hM, hm⟩
/-- a def as a value: its promise by position -/
theorem FnT.v {cl : List D → Hc → Res D} (i : Nat) (F : FnT P w K mg base g k x cl) (h : mg x = some (.ref (g.fa i))) : FnV P w K mg base g k (g.fa i) cl ∧ PySem.W.keepIn K (.ref (g.fa i)) = true := by
  obtain ⟨f, fd, ps, F, hb, hm, hk⟩ := F.ex
  have e : f = g.fa i := by rw [hm] at h; cases h; rfl
  subst e
  exact ⟨F.v hb, hk⟩
end
/-! ### the exception classes, numbered 0, 1, .. by nm -/
structure ExcAll (K : PySem.W.Frag) (mg : Str → Option Value) (g : Gx) (nm : List Str) (anc : Nat → Nat → Bool) : Prop where
  ex : ∀ c x, nm[c]? = some x → ExcF K mg g c x
  ec : ∀ c x, nm[c]? = some x → ExcC K (g.fa c)
  ki : ∀ c x t y, nm[c]? = some x → nm[t]? = some y → PySem.W.kitOne K (.ref (g.fa c)) (.ref (g.fa t)) = some (anc c t)
  kv : ∀ c x, nm[c]? = some x → PySem.W.kitOne K (.ref (g.fa c)) (.type "ValueError") = some true
  xm : ∀ c x t y, nm[c]? = some x → nm[t]? = some y → PySem.W.exmOne K (.ref (g.fa c)) (.ref (g.fa t)) = some (anc c t)
def ancT (m : Nat) (anc : Nat → Nat → Bool) (t c : Nat) : Option Bool := if c < m then some (anc c t) else none
theorem ancT_some {m : Nat} {anc : Nat → Nat → Bool} {t c : Nat} {b : Bool} (h : ancT m anc t c = some b) : c < m ∧ b = anc c t := by
  unfold ancT at h
  by_cases q : c < m
  · rw [if_pos q] at h; cases h; exact ⟨q, rfl⟩
  · rw [if_neg q] at h; cases h
def valT (m : Nat) (c : Nat) : Option Bool := if c < m then some true else none
section
variable {X : Cx} {g : Gx} {W : WX} {k : Nat} {nm : List Str} {anc : Nat → Nat → Bool} {a : Expr} {fa : Sl → Hc → Res D} {p p2 pos : Pos}
theorem lt_get {m : Nat} {nm : List Str} (h : m < nm.length) : ∃ x, nm[m]? = some x := ⟨_, List.getElem?_eq_getElem h⟩
theorem e_isO {y : Str} (t : Nat) (E : ExcAll X.K X.mg g nm anc) (c : Ct X g W k) (ha : PE X a (tI g W fa)) (hm : X.mg "isinstance" = none) (ht : nm[t]? = some y := by rfl) (hg : Gl X "isinstance" := by rfl) (hg2 : Gl X y := by rfl) (hd2 : (y == ("__debug__" : Str)) = false := by decide)
    (hs : starEach [a, .Name y p2] X.env = (false, eval a X.env) :: starEach [.Name y p2] X.env := by rfl) (hs2 : starEach [.Name y p2] X.env = (false, eval (.Name y p2) X.env) :: starEach [] X.env := by rfl) (he : (backTo pos (starEach [.Name y p2] X.env)).any (·.1) = false := by rfl) :
    PE X (.Call (.Name "isinstance" p) [a, .Name y p2] [] pos) (tI g W (unE (isXD (ancT nm.length anc t)) fa)) := by
  refine e_isX (cv := .ref (g.fa t)) (tv := .ref (g.fa t)) c ha (pe_glob hg2 (E.ex t y ht).gC rfl hd2) (fun u hu => hu) hm (fun cc b hb => ?_) hg hs hs2 he
  obtain ⟨h1, rfl⟩ := ancT_some hb
  obtain ⟨x, hx⟩ := lt_get h1
  exact ⟨E.ec cc x hx, E.ki cc x t y hx ht⟩
theorem e_isV (E : ExcAll X.K X.mg g nm anc) (c : Ct X g W k) (ha : PE X a (tI g W fa)) (hm : X.mg "isinstance" = none) (hm2 : X.mg "ValueError" = none) (hg : Gl X "isinstance" := by rfl) (hg2 : Gl X "ValueError" := by rfl)
    (hs : starEach [a, .Name "ValueError" p2] X.env = (false, eval a X.env) :: starEach [.Name "ValueError" p2] X.env := by rfl) (hs2 : starEach [.Name "ValueError" p2] X.env = (false, eval (.Name "ValueError" p2) X.env) :: starEach [] X.env := by rfl) (he : (backTo pos (starEach [.Name "ValueError" p2] X.env)).any (·.1) = false := by rfl) :
    PE X (.Call (.Name "isinstance" p) [a, .Name "ValueError" p2] [] pos) (tI g W (unE (isXD (valT nm.length)) fa)) := by
  refine e_isX (cv := .type "ValueError") (tv := .ty "ValueError") c ha (pe_bltn hg2 hm2 (by decide +kernel) rfl (by decide) (by decide)) (fun u hu => hu) hm (fun cc b hb => ?_) hg hs hs2 he
  unfold valT at hb
  by_cases q : cc < nm.length
  · rw [if_pos q] at hb
    cases hb
    obtain ⟨x, hx⟩ := lt_get q
    exact ⟨E.ec cc x hx, E.kv cc x hx⟩
  · rw [if_neg q] at hb; cases hb
theorem ck_of {K : PySem.W.Frag} {mg : Str → Option Value} (E : ExcAll K mg g nm anc) {t : Nat} {y : Str} (ht : nm[t]? = some y) : ∀ c b, ancT nm.length anc t c = some b → PySem.W.exmOne K (.ref (g.fa c)) (.ref (g.fa t)) = some b := fun c b h => by
  obtain ⟨h1, rfl⟩ := ancT_some h
  obtain ⟨x, hx⟩ := lt_get h1
  exact E.xm c x t y hx ht
end
/-! ### the head's look at them -/
def excCB (K : PySem.W.Frag) (a : Addr) : Bool := decide (PySem.W.findIn K (.ref a) "__getattribute__" = some (some (.builtin "BaseException.__getattribute__"))) && (decide (PySem.W.findIn K (.ref a) "__getattr__" = some none) && (decide (PySem.W.subIn K (.ref a) (.type "BaseException") = some true) && (PySem.W.hasDictIn K a &&
  (decide (PySem.W.findIn K (.ref a) "__class__" = some (some (.builtin "object.__class__"))) && (decide (PySem.W.specialIn K (.builtin "object.__class__") "__get__" = some (some (.builtin "getset_descriptor.__get__"))) && (decide (PySem.W.takesIn K (.builtin "object.__class__") = some true) && decide (PySem.W.mroIn K a (.type "object") = some true)))))))
theorem excCB_ok {K : PySem.W.Frag} {a : Addr} (h : excCB K a = true) : ExcC K a := by
  unfold excCB at h
  simp only [Bool.and_eq_true, decide_eq_true_eq] at h
  obtain ⟨h1, h2, h3, h4, h5, h6, h7, h8⟩ := h
  exact ⟨h1, h2, h3, h4, h5, h6, h7, h8⟩
def excB (nm : List Str) (anc : Nat → Nat → Bool) (K : PySem.W.Frag) : Bool := (List.range nm.length).all fun c => (He.Fa.glo (nm.getD c "")).ok K && ((He.Fa.exc (nm.getD c "")).ok K && (excCB K (He.ga K (nm.getD c "")) && (decide (PySem.W.kitOne K (.ref (He.ga K (nm.getD c ""))) (.type "ValueError") = some true) &&
  (List.range nm.length).all fun t => decide (PySem.W.kitOne K (.ref (He.ga K (nm.getD c ""))) (.ref (He.ga K (nm.getD t ""))) = some (anc c t)) && decide (PySem.W.exmOne K (.ref (He.ga K (nm.getD c ""))) (.ref (He.ga K (nm.getD t ""))) = some (anc c t)))))
theorem excB_ok {K : PySem.W.Frag} {h : Heap} {mg : Str → Option Value} {nm : List Str} {anc : Nat → Nat → Bool} {g : Gx} (X : K.In h) (G : h.Ns mainGlobals mg) (hf : ∀ c x, nm[c]? = some x → g.fa c = He.ga K x) (b : excB nm anc K = true) : ExcAll K mg g nm anc := by
  unfold excB at b
  rw [List.all_eq_true] at b
  have at_ : ∀ {c x}, nm[c]? = some x → c ∈ List.range nm.length ∧ nm.getD c "" = x := fun {c x} e => by
    obtain ⟨hl, he⟩ := List.getElem?_eq_some_iff.mp e
    exact ⟨List.mem_range.mpr hl, by rw [List.getD_eq_getElem?_getD, e]; rfl⟩
  have get : ∀ c x, nm[c]? = some x → (He.Fa.glo x).ok K = true ∧ (He.Fa.exc x).ok K = true ∧ excCB K (He.ga K x) = true ∧ PySem.W.kitOne K (.ref (He.ga K x)) (.type "ValueError") = some true ∧
      ∀ t y, nm[t]? = some y → PySem.W.kitOne K (.ref (He.ga K x)) (.ref (He.ga K y)) = some (anc c t) ∧ PySem.W.exmOne K (.ref (He.ga K x)) (.ref (He.ga K y)) = some (anc c t) := fun c x e => by
    obtain ⟨m1, m2⟩ := at_ e
    have q := b c m1
    rw [m2] at q
    simp only [Bool.and_eq_true, decide_eq_true_eq, List.all_eq_true] at q
    obtain ⟨q1, q2, q3, q4, q5⟩ := q
    refine ⟨q1, q2, q3, q4, fun t y e2 => ?_⟩
    obtain ⟨m3, m4⟩ := at_ e2
    have := q5 t m3
    rw [m4] at this
    exact this
  refine ⟨fun c x e => ?_, fun c x e => ?_, fun c x t y e e2 => ?_, fun c x e => ?_, fun c x t y e e2 => ?_⟩
  · obtain ⟨g1, g2, _⟩ := get c x e
    obtain ⟨h1, h2, h3, h4⟩ := He.exc_ok g2
    exact ⟨by rw [hf c x e]; exact He.glo_ok X G g1, by rw [hf c x e]; exact h1, by rw [hf c x e]; exact h2, by rw [hf c x e]; exact h3, by rw [hf c x e]; exact h4⟩
  · rw [hf c x e]; exact excCB_ok (get c x e).2.2.1
  · rw [hf c x e, hf t y e2]; exact ((get c x e).2.2.2.2 t y e2).1
  · rw [hf c x e]; exact (get c x e).2.2.2.1
  · rw [hf c x e, hf t y e2]; exact ((get c x e).2.2.2.2 t y e2).2
end Bo

set_option Elab.async false
set_option linter.all false
set_option maxRecDepth 100000
set_option maxHeartbeats 4000000
set_option autoImplicit false
/-! Bo26: a numbered list is frozen; unpacking lists. -/
namespace Bo
open PySem PySem.Spec L2

theorem Hc.get_del' {h : Hc} {n k : Nat} {o : Ob} (e : (h.del n).get k = some o) : h.get k = some o ∧ k ≠ n := Hc.get_del e
theorem StR.freeze {g : Gx} {z : Fz} {H : Hp} {hc : Hc} (st : StR g z H hc) {n : Nat} {a : Addr} {u : HO} {o : Ob} (h : hc.get n = some o) (hr : z.ρ n = some a) (hH : H a = some u) :
    Ext z H ⟨upd z.F a u, z.ρ⟩ H ∧ StR g ⟨upd z.F a u, z.ρ⟩ H (hc.del n) := by
  have hF : z.F a = none := by
    obtain ⟨b, e1, e2, _⟩ := st.obj n o h
    rw [hr] at e1; cases e1; exact e2
  have le : FLe z ⟨upd z.F a u, z.ρ⟩ := ⟨fun b v e => by
    show upd z.F a u b = some v
    rw [upd_ne (fun q => by rw [q, hF] at e; cases e)]; exact e, fun _ _ e => e⟩
  refine ⟨⟨le, fun b v e _ => e, fun b v e => ⟨v, e⟩, fun b v e q => ?_, fun m b e q => ?_⟩, ⟨fun b v e => ?_, st.inj, st.live, st.fresh, fun m v e => ?_⟩⟩
  · by_cases hb : b = a
    · exact .inr ⟨n, by rw [hb]; exact hr⟩
    · have e' : upd z.F a u b = some v := e
      rw [upd_ne hb, q] at e'; cases e'
  · have e' : z.ρ m = some b := e
    rw [q] at e'; cases e'
  · have e' : upd z.F a u b = some v := e
    by_cases hb : b = a
    · subst hb; rw [upd_same] at e'; cases e'; exact hH
    · rw [upd_ne hb] at e'; exact st.sub b v e'
  · obtain ⟨e1, ne⟩ := Hc.get_del e
    obtain ⟨b, k1, k2, k3⟩ := st.obj m v e1
    have nb : b ≠ a := fun q => ne (st.inj m n a (by rw [← q]; exact k1) hr)
    refine ⟨b, k1, by show upd z.F a u b = none; rw [upd_ne nb]; exact k2, ?_⟩
    cases v with
    | lst ds =>
      obtain ⟨xs, q1, q2⟩ := k3
      exact ⟨xs, q1, q2.mono le⟩
    | ins c fs =>
      obtain ⟨dx, vs, q1, q2⟩ := k3
      exact ⟨dx, vs, q1, q2.mono le⟩
    | dct ks es =>
      obtain ⟨vs, q1, el, q2⟩ := k3
      exact ⟨vs, q1, el, q2.mono le⟩
/-- what a numbered list gives as data -/
def frzR (d : D) (hc : Hc) : Res D := match d with
  | .loc n => (match hc.get n with
    | some (.lst ds) => .ok (.lst ds) (hc.del n)
    | _ => .ok d hc)
  | d => .ok d hc
def frzE (fa : Sl → Hc → Res D) : Sl → Hc → Res D := fun sl hc => (fa sl hc).bind frzR
theorem e_frz {X : Cx} {g : Gx} {W : WX} {e : Expr} {fa : Sl → Hc → Res D} (he : PE X e (tI g W fa)) : PE X e (tI g W (frzE fa)) := by
  refine pe_imp he fun σ H Q ⟨z, sl, hc, hs, st, h⟩ => ?_
  refine tI.mono (OutE.thenE (f := fa) hs st h) fun v H1 ⟨z1, d1, hc1, x1, hs1, st1, r1, o1⟩ => ?_
  have same : frzR d1 hc1 = .ok d1 hc1 → Q v H1 := fun e => by
    rw [e] at o1
    exact o1 z1 H1 v (.refl _ _) st1 r1
  cases d1 with
  | loc n =>
    cases q : hc1.get n with
    | none => exact same (by simp only [frzR, q])
    | some ob =>
      cases ob with
      | ins c fs => exact same (by simp only [frzR, q])
      | dct ks es => exact same (by simp only [frzR, q])
      | lst ds =>
        have e : frzR (.loc n) hc1 = .ok (.lst ds) (hc1.del n) := by simp only [frzR, q]
        rw [e] at o1
        obtain ⟨a, xs, rfl, hr, hH, rl⟩ := st1.at q r1
        obtain ⟨xx, ss⟩ := st1.freeze q hr hH
        exact o1 _ H1 _ xx ss (.lst (Rd.of (show upd z1.F a _ a = _ from upd_same)) (rl.mono xx.le))
  | _ => exact same rfl
/-- a, b, .. = e, e a tuple or a list -/
def tupH (n : Nat) (k : List D → Sl → Option Sl) : D → Sl → Option Sl
  | .tup ds, sl => if ds.length = n then k ds sl else none
  | .lst ds, sl => if ds.length = n then k ds sl else none
  | _, _ => none
section
variable {X : Cx} {g : Gx} {W : WX} {kk : Nat} {vs : List Nat} {es : List Expr} {fs : List D → Sl → Option Sl} {pos : Pos}
theorem g_tuph {k n : Nat} (c : Ct X g W kk) (h : PGs X es (gIs g vs fs)) (hn : (assignEach es X.env).length = n := by rfl) (hst : (assignEach es X.env).findIdx? (·.1) = none := by rfl) : PG X (.Tuple es k pos) (gI g vs (tupH n fs)) := by
  refine ⟨fun pins s σ H v u Q I r ⟨z, sl, hc, d, sl', hs, st, rd, e, q⟩ => ?_⟩
  cases rd with
  | @tup a xs ds h1 q1 =>
    have e' : (if ds.length = n then fs ds sl else none) = some sl' := e
    by_cases hl : ds.length = n
    · rw [if_pos hl] at e'
      refine (pg_tup c.calm h hn hst).run pins s σ H _ u Q I r ⟨a, xs, rfl, by rw [c.hK]; exact SqT.mono st.sub h1, by rw [← q1.length]; exact hl, ?_⟩
      exact ⟨z, sl, hc, ds, sl', hs, st, q1, e', q⟩
    · rw [if_neg hl] at e'; cases e'
  | @lst a xs ds h1 q1 =>
    have e' : (if ds.length = n then fs ds sl else none) = some sl' := e
    by_cases hl : ds.length = n
    · rw [if_pos hl] at e'
      refine (pg_lst c.calm h hn hst).run pins s σ H _ u Q I r ⟨a, xs, rfl, .inl (Rd.mono st.sub h1), by rw [← q1.length]; exact hl, ?_⟩
      exact ⟨z, sl, hc, ds, sl', hs, st, q1, e', q⟩
    · rw [if_neg hl] at e'; cases e'
  | _ => cases e
end
end Bo

set_option Elab.async false
set_option linter.all false
set_option maxRecDepth 100000
set_option maxHeartbeats 4000000
set_option autoImplicit false
/-! Bo27: what a call has made and nobody holds is forgotten; range(a, b). -/
namespace Bo
open PySem PySem.Spec L2

mutual
/-- all numbers in it are below n -/
def lowD (n : Nat) : D → Bool
  | .loc m => decide (m < n)
  | .lst ds => lowDs n ds
  | .kl ds => lowDs n ds
  | .tup ds => lowDs n ds
  | .dct _ ds => lowDs n ds
  | _ => true
def lowDs (n : Nat) : List D → Bool
  | [] => true
  | d :: ds => lowD n d && lowDs n ds
end
def lowO (n : Nat) : Ob → Bool
  | .lst ds => lowDs n ds
  | .ins _ fs => lowDs n (fs.map (·.2))
  | .dct _ ds => lowDs n ds
def Hc.cut (h : Hc) (n : Nat) : Hc := ⟨n, h.m.filter fun p => decide (p.1 < n)⟩
def Hc.low (h : Hc) (n : Nat) : Bool := (h.m.filter fun p => decide (p.1 < n)).all fun p => lowO n p.2
def gcR (cl : List D → Hc → Res D) : List D → Hc → Res D := fun ds hc => match cl ds hc with
  | .ok d hc' => if lowD hc.next d && hc'.low hc.next then .ok d (hc'.cut hc.next) else .ok d hc'
  | .exc c hc' => if hc'.low hc.next then .exc c (hc'.cut hc.next) else .exc c hc'
  | .bad => .bad
theorem lookup_filter {n k : Nat} {o : Ob} : ∀ {m : List (Nat × Ob)}, (m.filter fun p => decide (p.1 < n)).lookup k = some o → m.lookup k = some o ∧ k < n
  | [], e => nomatch e
  | (a, b) :: r, e => by
    by_cases ha : a < n
    · have : ((a, b) :: r).filter (fun p => decide (p.1 < n)) = (a, b) :: r.filter (fun p => decide (p.1 < n)) := by simp [ha]
      rw [this] at e
      cases hk : k == a with
      | true =>
        simp only [List.lookup, hk] at e ⊢
        have : k = a := by simpa using hk
        exact ⟨e, by omega⟩
      | false =>
        simp only [List.lookup, hk] at e ⊢
        exact lookup_filter e
    · have : ((a, b) :: r).filter (fun p => decide (p.1 < n)) = r.filter (fun p => decide (p.1 < n)) := by simp [ha]
      rw [this] at e
      obtain ⟨h1, h2⟩ := lookup_filter e
      have : (k == a) = false := by simp; omega
      simp only [List.lookup, this]
      exact ⟨h1, h2⟩
theorem mem_of_lookup {k : Nat} {o : Ob} : ∀ {m : List (Nat × Ob)}, m.lookup k = some o → ∃ p ∈ m, p.2 = o
  | [], e => nomatch e
  | (a, b) :: r, e => by
    cases hk : k == a with
    | true => simp only [List.lookup, hk] at e; exact ⟨(a, b), List.mem_cons_self, by simpa using e⟩
    | false =>
      simp only [List.lookup, hk] at e
      obtain ⟨p, h1, h2⟩ := mem_of_lookup e
      exact ⟨p, List.mem_cons_of_mem _ h1, h2⟩
def cutZ (z : Fz) (n : Nat) : Fz := ⟨z.F, fun m => if m < n then z.ρ m else none⟩
section
variable {g : Gx} {z : Fz} {n : Nat}
mutual
theorem RelD.cut : ∀ {d : D} {v : V}, RelD g z d v → lowD n d = true → RelD g (cutZ z n) d v
  | _, _, .non, _ => .non
  | _, _, .bl b, _ => .bl b
  | _, _, .int b, _ => .int b
  | _, _, .str b, _ => .str b
  | _, _, .lst h r, e => .lst h (RelDs.cutAll r (by simpa only [lowD] using e))
  | _, _, .kl h r, e => .kl h (RelDs.cutAll r (by simpa only [lowD] using e))
  | _, _, .tup h r, e => .tup h (RelDs.cutAll r (by simpa only [lowD] using e))
  | _, _, .dct h l r, e => .dct h l (RelDs.cutAll r (by simpa only [lowD] using e))
  | _, _, .loc (n := m) h, e => .loc (by
    have hm : m < n := by simpa only [lowD, decide_eq_true_eq] using e
    show (if m < n then z.ρ m else none) = _
    rw [if_pos hm]; exact h)
  | _, _, .fn i, _ => .fn i
  | _, _, .ty i, _ => .ty i
  | _, _, .ex h, _ => .ex h
theorem RelDs.cutAll : ∀ {ds : List D} {vs : List V}, RelDs g z ds vs → lowDs n ds = true → RelDs g (cutZ z n) ds vs
  | _, _, .nil, _ => .nil
  | _, _, .cons h t, e => by
    simp only [lowDs, Bool.and_eq_true] at e
    exact .cons (RelD.cut h e.1) (RelDs.cutAll t e.2)
end
theorem StR.cut {H : Hp} {hc : Hc} (st : StR g z H hc) (h : hc.low n = true) : StR g (cutZ z n) H (hc.cut n) where
  sub := st.sub
  inj := fun a b c h1 h2 => by
    have h1' : (if a < n then z.ρ a else none) = some c := h1
    have h2' : (if b < n then z.ρ b else none) = some c := h2
    by_cases q1 : a < n
    · by_cases q2 : b < n
      · rw [if_pos q1] at h1'; rw [if_pos q2] at h2'; exact st.inj a b c h1' h2'
      · rw [if_neg q2] at h2'; cases h2'
    · rw [if_neg q1] at h1'; cases h1'
  live := fun m a h1 => by
    have h1' : (if m < n then z.ρ m else none) = some a := h1
    by_cases q1 : m < n
    · rw [if_pos q1] at h1'; exact st.live m a h1'
    · rw [if_neg q1] at h1'; cases h1'
  fresh := fun m hm => by
    have hm' : n ≤ m := hm
    show (if m < n then z.ρ m else none) = none
    exact if_neg (by omega)
  obj := fun m o e => by
    obtain ⟨e1, hm⟩ := lookup_filter (show (hc.m.filter fun p => decide (p.1 < n)).lookup m = some o from e)
    obtain ⟨p, hp, rfl⟩ := mem_of_lookup (show (hc.m.filter fun p => decide (p.1 < n)).lookup m = some o from e)
    have low := List.all_eq_true.mp h p hp
    obtain ⟨a, k1, k2, k3⟩ := st.obj m p.2 e1
    refine ⟨a, by show (if m < n then z.ρ m else none) = _; rw [if_pos hm]; exact k1, k2, ?_⟩
    revert low k3
    cases p.2 with
    | lst ds =>
      rintro low ⟨xs, q1, q2⟩
      exact ⟨xs, q1, q2.cutAll low⟩
    | ins c fs =>
      rintro low ⟨dx, vs, q1, q2⟩
      exact ⟨dx, vs, q1, q2.cutAll low⟩
    | dct ks es =>
      rintro low ⟨vs, q1, el, q2⟩
      exact ⟨vs, q1, el, q2.cutAll low⟩
theorem Ext.cut {z0 : Fz} {H0 H : Hp} {hc0 : Hc} (st : StR g z0 H0 hc0) (x : Ext z0 H0 z H) : Ext z0 H0 (cutZ z hc0.next) H where
  le := ⟨x.le.1, fun m a e => by
    have hm : m < hc0.next := Classical.byContradiction fun q => by
      rw [st.fresh m (by omega)] at e; cases e
    show (if m < hc0.next then z.ρ m else none) = _
    rw [if_pos hm]; exact x.le.2 m a e⟩
  keep := x.keep
  alive := x.alive
  fNew := x.fNew
  rNew := fun m a e q => by
    have e' : (if m < hc0.next then z.ρ m else none) = some a := e
    by_cases hm : m < hc0.next
    · rw [if_pos hm] at e'; exact x.rNew m a e' q
    · rw [if_neg hm] at e'; cases e'
end
theorem OutC.gc {g : Gx} {z : Fz} {H : Hp} {hc : Hc} {cl : List D → Hc → Res D} {ds : List D} {Q : VK} {E : XK} (st : StR g z H hc) (o : OutC g z H (gcR cl ds hc) Q E) : OutC g z H (cl ds hc) Q E := by
  unfold gcR at o
  revert o
  cases cl ds hc with
  | ok d hc' =>
    intro o z' H' v x s r
    dsimp only at o
    by_cases h : (lowD hc.next d && hc'.low hc.next) = true
    · rw [if_pos h] at o
      rw [Bool.and_eq_true] at h
      exact o (cutZ z' hc.next) H' v (x.cut st) (s.cut h.2) (r.cut h.1)
    · rw [if_neg h] at o
      exact o z' H' v x s r
  | exc c hc' =>
    intro o z' H' x s
    dsimp only at o
    by_cases h : hc'.low hc.next = true
    · rw [if_pos h] at o
      exact o (cutZ z' hc.next) H' (x.cut st) (s.cut h)
    · rw [if_neg h] at o
      exact o z' H' x s
  | bad => exact fun o => o
section
variable {P : Program} {w : World} {K : PySem.W.Frag} {mg : Str → Option Value} {base : Heap} {g : Gx} {k c : Nat} {x m : Str} {cl : List D → Hc → Res D}
theorem FnI.gc {f : Addr} {fd : FuncData} {ps : List Str} (F : FnI P w K mg base g k f fd ps cl) : FnI P w K mg base g k f fd ps (gcR cl) where
  len := fun ds hc => by
    rcases F.len ds hc with e | e
    · exact .inl (by unfold gcR; rw [e])
    · exact .inr e
  run := fun A outer s H args us vs z hc ds Q E hr hg e0 hb rv st rd o => F.run A outer s H args us vs z hc ds Q E hr hg e0 hb rv st rd (o.gc st)
theorem FnT.gc (F : FnT P w K mg base g k x cl) : FnT P w K mg base g k x (gcR cl) := by
  obtain ⟨f, fd, ps, F, r⟩ := F.ex
  exact ⟨f, fd, ps, F.gc, r⟩
theorem FnV.gc {f : Addr} (F : FnV P w K mg base g k f cl) : FnV P w K mg base g k f (gcR cl) := ⟨fun A outer s H us vs z hc ds Q E hr hg e0 rv st rd o => F.run A outer s H us vs z hc ds Q E hr hg e0 rv st rd (o.gc st)⟩
theorem FnM.gc (F : FnM P w K mg base g k c m cl) : FnM P w K mg base g k c m (gcR cl) := by
  obtain ⟨f, F, r⟩ := F.ex
  exact ⟨f, F.gc, r⟩
end
/-! ### range(a, b) -/
def rgE (fa fb : Sl → Hc → Res D) : Sl → Hc → Res (List D) := fun sl hc => (fa sl hc).bind fun d hc1 => (fb sl hc1).bind fun e hc2 => match d, e with
  | .int i, .int j => if decide (-(2 ^ 62) ≤ i) && (decide (i < 2 ^ 62) && (decide (-(2 ^ 62) ≤ j) && decide (j < 2 ^ 62))) then .ok (upTo i (j - i).toNat) hc2 else .bad
  | _, _ => .bad
end Bo

set_option Elab.async false
set_option linter.all false
set_option maxRecDepth 100000
set_option maxHeartbeats 4000000
set_option autoImplicit false
/-! Bo28: numbered dicts: {}, d[k] = v, d.get(k, x). -/
namespace Bo
open PySem PySem.Spec L2

theorem KR.zip {g : Gx} {z : Fz} : ∀ {ks : List Key} {ds : List D} {vs : List V}, RelDs g z ds vs → KR g z (ks.zip ds) (ks.zip vs)
  | [], _, _, _ => by simp only [List.zip_nil_left]; exact .nil
  | _ :: _, _, _, .nil => by simp only [List.zip_nil_right]; exact .nil
  | _ :: _, _, _, .cons h t => .cons ⟨rfl, h⟩ (KR.zip t)
def findD (kvs : List (Key × D)) (k : Key) : Option D := (kvs.find? fun kv => decide (kv.1 = k)).map (·.2)
theorem KR.val {g : Gx} {z : Fz} {k : Key} : ∀ {a : List (Key × D)} {w : List (Key × V)}, KR g z a w → ∀ {d : D} {v : V}, RelD g z d v → RelD g z ((findD a k).getD d) ((valV w k).getD v)
  | _, _, .nil, _, _, r => r
  | p :: pr, q :: qr, .cons h t, d, v, r => by
    by_cases e : q.1 = k
    · have e' : p.1 = k := h.1.trans e
      rw [valV_pos e]
      simp only [findD, List.find?_cons, e', decide_true, Option.map_some, Option.getD_some]
      exact h.2
    · have e' : ¬ p.1 = k := fun z => e (h.1.symm.trans z)
      rw [valV_neg e]
      have : findD (p :: pr) k = findD pr k := by simp only [findD, List.find?_cons, e', decide_false]
      rw [this]
      exact KR.val t r
theorem StR.atD {g : Gx} {z : Fz} {H : Hp} {hc : Hc} (st : StR g z H hc) {n : Nat} {v : V} {ks : List Key} {ds : List D} (h : hc.get n = some (.dct ks ds)) (r : RelD g z (.loc n) v) : ∃ a xs, v = .ref a ∧ z.ρ n = some a ∧ H a = some (.dK (ks.zip xs)) ∧ ks.length = ds.length ∧ RelDs g z ds xs := by
  cases r with
  | loc hr =>
    obtain ⟨b, e1, e2, xs, e3, el, e4⟩ := st.obj n _ h
    rw [hr] at e1; cases e1
    exact ⟨_, xs, rfl, hr, e3, el, e4⟩
def newdE : Sl → Hc → Res D := fun _ hc => .ok (.loc hc.next) (hc.new (.dct [] []))
def dputD (hc : Hc) (o i v : D) : Option Hc := match o, keyOf i with
  | .loc n, some k => (match hc.get n with
    | some (.dct ks ds) => if (ks.zip ds).length < sizeLine then some (hc.set n (.dct ((putKD (ks.zip ds) k v).map (·.1)) ((putKD (ks.zip ds) k v).map (·.2)))) else none
    | _ => none)
  | _, _ => none
def dsubS (fo fi fv : Sl → Hc → Res D) : Sl → Hc → RS := fun sl hc => (fv sl hc).toS sl fun v hc1 => (fo sl hc1).toS sl fun o hc2 => (fi sl hc2).toS sl fun i hc3 => match dputD hc3 o i v with
  | some hc4 => .nx sl hc4
  | none => .bad
def isDct (hc : Hc) : D → Bool
  | .loc n => (match hc.get n with
    | some (.dct _ _) => true
    | _ => false)
  | _ => false
def dgD (hc : Hc) (o i x : D) : Option D := match o, keyOf i with
  | .loc n, some k => (match hc.get n with
    | some (.dct ks ds) => some ((findD (ks.zip ds) k).getD x)
    | _ => none)
  | _, _ => none
def dgE (fo fi fx : Sl → Hc → Res D) : Sl → Hc → Res D := fun sl hc => (fo sl hc).bind fun o hc1 => if isDct hc1 o then (fi sl hc1).bind fun i hc2 => (fx sl hc2).bind fun x hc3 => (match dgD hc3 o i x with
  | some r => .ok r hc3
  | none => .bad) else .bad
section
variable {X : Cx} {g : Gx} {W : WX} {k : Nat} {e o i x : Expr} {fv fo fi fx : Sl → Hc → Res D} {pos p2 apos : Pos}
theorem e_newd : PE X (.Dict [] [] pos) (tI g W newdE) := by
  refine pe_imp pe_dnewK fun σ H Q ⟨z, sl, hc, hs, st, h⟩ => fun p hp => ?_
  obtain ⟨z2, x2, s2, r2⟩ := st.newLoc (o := .dct [] []) (u := .dK []) hp fun z' le _ => ⟨[], upd_same, rfl, .nil⟩
  exact h _ _ _ x2 s2 (.loc r2)
theorem s_dsub (c : Ct X g W k) (he : PE X e (tI g W fv)) (ho : PE X o (tI g W fo)) (hi : PE X i (tI g W fi)) (hs : swapsWith e (some (.Subscript o i p2)) pos.line X.env = pure false := by rfl) :
    PS X (.Assign [.Subscript o i p2] e pos) (sI g W (dsubS fo fi fv)) := by
  refine ps_imp (ps_dput (by have := room65 c; omega) ho hi he hs) fun E σ H ⟨z, sl, hc, hs, s, h⟩ => ?_
  refine tI.mono (OutS.thenE (f := fv) hs s h) fun v H1 ⟨z1, d1, hc1, x1, hs1, st1, r1, o1⟩ => ?_
  refine tI.mono (OutS.thenE (f := fo) hs1 st1 o1) fun v2 H2 ⟨z2, d2, hc2, x2, hs2, st2, r2, o2⟩ => ?_
  refine tI.mono (OutS.thenE (f := fi) hs2 st2 o2) fun v3 H3 ⟨z3, d3, hc3, x3, hs3, st3, r3, o3⟩ => ?_
  have r1' := (r1.mono x2.le).mono x3.le
  have r2' := r2.mono x3.le
  cases e : dputD hc3 d2 d3 d1 with
  | none => rw [e] at o3; exact o3.elim
  | some hc4 =>
    rw [e] at o3
    unfold dputD at e
    cases d2 with
    | loc n =>
      cases ek : keyOf d3 with
      | none => rw [ek] at e; cases e
      | some kk =>
        rw [ek] at e
        dsimp only at e
        cases hg : hc3.get n with
        | none => rw [hg] at e; cases e
        | some ob =>
          rw [hg] at e
          cases ob with
          | lst es => cases e
          | ins c fs => cases e
          | dct ks ds =>
            dsimp only at e
            split at e
            · rename_i hl
              cases e
              obtain ⟨a, xs, rfl, hr, hH, el, rl⟩ := st3.atD hg r2'
              have kr := KR.zip (ks := ks) rl
              obtain ⟨ys, q1, q2, q3⟩ := KR.rel (D0 := a) (kr.put (k := kk) r1')
              obtain ⟨xx, ss⟩ := st3.write (o' := .dct ((putKD (ks.zip ds) kk d1).map (·.1)) ((putKD (ks.zip ds) kk d1).map (·.2))) (u := .dK (putK (ks.zip xs) kk v)) hg hr ⟨ys, by rw [upd_same, q1], q2, q3⟩
              refine ⟨a, _, rfl, ?_, o3 z3 _ σ xx hs3 ss⟩
              have := keyOf_rel r3 ek
              subst this
              exact .k hH (by rw [← kr.length]; exact hl)
            · cases e
    | _ => cases e
theorem isDct_is {z : Fz} {H : Hp} {hc : Hc} {d : D} {v : V} (st : StR g z H hc) (h : isDct hc d = true) (r : RelD g z d v) : ∃ a, v = .ref a ∧ IsD H a := by
  unfold isDct at h
  cases d with
  | loc n =>
    dsimp only at h
    cases hg : hc.get n with
    | none => rw [hg] at h; cases h
    | some ob =>
      rw [hg] at h
      cases ob with
      | lst es => cases h
      | ins c fs => cases h
      | dct ks ds =>
        obtain ⟨a, xs, rfl, hr, hH, el, rl⟩ := st.atD hg r
        exact ⟨a, rfl, .inl ⟨_, .inl hH⟩⟩
  | _ => cases h
theorem e_dget (c : Ct X g W k) (ho : PE X o (tI g W fo)) (hi : PE X i (tI g W fi)) (hx : PE X x (tI g W fx))
    (m : M2 X o "get" apos i x pos := by exact ⟨rfl, rfl, rfl, rfl⟩) : PE X (.Call (.Attribute o "get" apos) [i, x] [] pos) (tI g W (dgE fo fi fx)) := by
  refine pe_imp (pe_dget2 (by have := room65 c; omega) ho hi hx m) fun σ H Q ⟨z, sl, hc, hs, st, h⟩ => ?_
  refine tI.mono (OutE.thenE (f := fo) hs st h) fun v1 H1 ⟨z1, d1, hc1, x1, hs1, st1, r1, o1⟩ => ?_
  cases q : isDct hc1 d1 with
  | false => rw [q] at o1; exact o1.elim
  | true =>
    simp only [q, if_true] at o1
    obtain ⟨a, rfl, isd⟩ := isDct_is st1 q r1
    refine ⟨a, rfl, isd, tI.mono (OutE.thenE (f := fi) hs1 st1 o1) fun v2 H2 ⟨z2, d2, hc2, x2, hs2, st2, r2, o2⟩ => ?_⟩
    refine tI.mono (OutE.thenE (f := fx) hs2 st2 o2) fun v3 H3 ⟨z3, d3, hc3, x3, hs3, st3, r3, o3⟩ => ?_
    have r1' := (r1.mono x2.le).mono x3.le
    have r2' := r2.mono x3.le
    cases e : dgD hc3 d1 d2 d3 with
    | none => rw [e] at o3; exact o3.elim
    | some r =>
      rw [e] at o3
      unfold dgD at e
      cases d1 with
      | loc n =>
        cases ek : keyOf d2 with
        | none => rw [ek] at e; cases e
        | some kk =>
          rw [ek] at e
          dsimp only at e
          cases hg : hc3.get n with
          | none => rw [hg] at e; cases e
          | some ob =>
            rw [hg] at e
            cases ob with
            | lst es => cases e
            | ins c fs => cases e
            | dct ks ds =>
              dsimp only at e
              cases e
              obtain ⟨b, xs, eb, hr, hH, el, rl⟩ := st3.atD hg r1'
              cases eb
              have := keyOf_rel r2' ek
              subst this
              exact ⟨_, .k hH, o3 z3 _ _ (.refl _ _) st3 (KR.val (KR.zip rl) r3)⟩
      | _ => cases e
/-! ### str(x), x an int or a text -/
def strX (_ : Hc) : List D → Option D
  | [.int i] => if i.natAbs.log2 < 1920 then some (.str (toString i)) else none
  | [.str x] => some (.str x)
  | _ => none
theorem b_strX : CallR X (.type "str") (rA g strX) := by
  intro pins s σ H xs us Q I r ⟨z, hc, ds, rr, st, rd, er, q⟩
  cases rd with
  | nil => cases er
  | cons h t => cases t with
    | cons _ _ => cases h <;> cases er
    | nil => cases h with
      | int i =>
        simp only [strX] at er
        split at er
        · rename_i hl
          cases er
          exact call_str_int pins s σ H _ us Q I r ⟨i, rfl, hl, plain st q (.str _)⟩
        · cases er
      | str y =>
        cases er
        exact SkE.call_str_str pins s σ H _ us Q I r ⟨y, rfl, plain st q (.str _)⟩
      | _ => cases er
end
end Bo

set_option Elab.async false
set_option linter.all false
set_option maxRecDepth 100000
set_option maxHeartbeats 4000000
set_option autoImplicit false
/-! Bo29: draws, short texts, repr: what several laws need (first shown for k10). -/
namespace Bo
open PySem PySem.Spec PyProof.Rows L2
def lD : Option Str → D
  | none => .non
  | some l => .str l
def Ac (x : Str) : Prop := ∀ c ∈ x.cps.toList, c < 128
def Sh (x : Str) : Prop := x.length ≤ 40 ∧ Ac x
def ShO (l : Option Str) : Prop := ∀ x, l = some x → Sh x
theorem dot_len : Str.length "." = 1 := rfl
theorem q_len : Str.length "'" = 1 := rfl
theorem cm_len : Str.length ", " = 2 := rfl
theorem sum_le {n : Nat} : ∀ {l : List Str} (_ : ∀ x ∈ l, x.length ≤ n), (l.map (·.length)).sum ≤ n * l.length
  | [], _ => by simp
  | x :: l, h => by
    have h1 := sum_le fun y hy => h y (List.mem_cons_of_mem _ hy)
    have h2 := h x List.mem_cons_self
    rw [List.map_cons, List.sum_cons, List.length_cons, Nat.mul_succ]
    omega
section
variable {hc : Hc}
theorem eq_same (x : Str) : eqO hc (.str x) (.str x) = some (.bl true) := by
  show some (D.bl (decide (x = x))) = _
  simp
theorem eq_not {x y : Str} (h : x ≠ y) : eqO hc (.str x) (.str y) = some (.bl false) := by
  show some (D.bl (decide (x = y))) = _
  simp [h]
end
def quo (x : Str) : Str := "'" ++ x ++ "'"
theorem quo_len {x : Str} (h : Sh x) : (quo x).length ≤ 42 := by
  have : x.length ≤ 40 := (h).1
  unfold quo
  rw [app_len, app_len, q_len]
  omega
theorem quos_len {ws : List Str} (h : ∀ w ∈ ws, Sh w) : ((ws.map quo).map (·.length)).sum ≤ 42 * ws.length := by
  have := sum_le (n := 42) (l := ws.map quo) fun y hy => by
    obtain ⟨w, hw, rfl⟩ := List.mem_map.mp hy
    exact quo_len (h w hw)
  rw [List.length_map] at this
  exact this
theorem joinq_len {ws : List Str} (h : ∀ w ∈ ws, Sh w) : (Str.join ", " (ws.map quo)).length ≤ 44 * ws.length := by
  have h1 := quos_len h
  have h2 := joinLen ", " (ws.map quo)
  rw [List.length_map, cm_len] at h2
  omega
section
variable {hc : Hc}
theorem quo_map {fe : Sl → Hc → Res D} {i : Nat} {sl : Sl} {ws : List Str} (hi : i < sl.length) (h : ∀ (w : Str) (s2 : Sl), Sh w → s2[i]? = some (some (.str w)) → fe s2 hc = .ok (.str (quo w)) hc) (hw : ∀ w ∈ ws, Sh w) : mapC (nmG i) yT fe sl (ws.map D.str) hc = .ok ((ws.map quo).map D.str) hc := by
  induction ws with
  | nil => rfl
  | cons w ws ih =>
    have h2 := ih fun q hq => hw q (List.mem_cons_of_mem _ hq)
    have e := h w (sl.set i (some (.str w))) (hw w List.mem_cons_self) (by rw [List.getElem?_set_self hi])
    have f : nmG i (.str w) sl = some (sl.set i (some (.str w))) := rfl
    simp only [List.map_cons, mapC, f, yT, Res.bind, if_true, e, h2]
end
theorem ac_app {x y : Str} (h1 : Ac x) (h2 : Ac y) : Ac (x ++ y) := fun c hc => by
  rw [app_list] at hc
  rcases List.mem_append.mp hc with h | h
  · exact h1 c h
  · exact h2 c h
theorem ac_empty : Ac Str.empty := fun c hc => by
  have : c ∈ ([] : List Nat) := hc
  cases this
theorem ac_join {sep : Str} (hs : Ac sep) : ∀ {ys : List Str} (_ : ∀ y ∈ ys, Ac y), Ac (Str.join sep ys)
  | [], _ => ac_empty
  | [y], h => h y List.mem_cons_self
  | y :: z :: r, h => by
    have e : Str.join sep (y :: z :: r) = y ++ sep ++ Str.join sep (z :: r) := rfl
    rw [e]
    exact ac_app (ac_app (h y List.mem_cons_self) hs) (ac_join hs fun w hw => h w (List.mem_cons_of_mem _ hw))
def acB (x : Str) : Bool := x.cps.toList.all fun c => decide (c < 128)
theorem ac_of {x : Str} (h : acB x = true) : Ac x := fun c hc => of_decide_eq_true (List.all_eq_true.mp h c hc)
def shB (x : Str) : Bool := decide (x.length ≤ 40) && acB x
theorem sh_of {x : Str} (h : shB x = true) : Sh x := by
  unfold shB at h
  rw [Bool.and_eq_true, decide_eq_true_eq] at h
  exact ⟨h.1, ac_of h.2⟩
theorem repr_text {x : Str} {hc : Hc} (h : Ac x) (hl : x.length ≤ 1500000) : ∃ y, reprD hc (.str x) = some (.str y) := by
  have e : toPyR hc (.str x) = some (.str x) := rfl
  have ls : (PyData.str x).leavesShort 8 = true := by
    simp only [PyData.leavesShort, List.all_eq_true, decide_eq_true_eq]
    intro c hc
    have := h c hc
    have : (128 : Nat) ≤ 16 ^ 8 := by decide
    omega
  have sh := PyData.shown_le 8 (by omega) (.str x) ls
  have wt : (PyData.str x).weight = x.length := by simp only [PyData.weight]; rfl
  rw [wt] at sh
  have f : fitsR (.str x) = true := by
    have hs : sizeLine = 16777216 := sizeLine_eq
    unfold fitsR
    have s1 : (PyData.str x).showable = true := by simp [PyData.showable]
    rw [s1, Bool.true_and, Bool.and_eq_true]
    exact ⟨decide_eq_true (by omega), decide_eq_true (by simp [PyData.depth])⟩
  exact ⟨_, by unfold reprD; rw [e, Option.bind_some, if_pos f]⟩
theorem sh_wd {x : Str} (h : Sh x) : Wd x := h
structure FitL (k w : Nat) (ds : List D) : Prop where
  ex : ∃ ps, toPys ds = some ps ∧ PyData.showableAll ps = true ∧ PyData.leavesShortAll 50 ps = true ∧ PyData.weightAll ps ≤ w ∧ PyData.depthAll ps ≤ k ∧ PyData.canLayAll0 ps = true
theorem fitL_nil {k : Nat} : FitL k 0 [] := ⟨[], rfl, by simp [PyData.showableAll], by simp [PyData.leavesShortAll], by simp [PyData.weightAll], by simp [PyData.depthAll], by simp [PyData.canLayAll0]⟩
theorem fitL_cons {k a w : Nat} {d : D} {ds : List D} (h : Fit k a d) (t : FitL k w ds) : FitL k (a + 1 + w) (d :: ds) := by
  obtain ⟨p, a1, b, c, e, f, l⟩ := h.ex
  obtain ⟨ps, a', b', c', e', f', l'⟩ := t.ex
  refine ⟨p :: ps, by simp only [toPys, a1, a', Option.bind_some, Option.map_some], by simp only [PyData.showableAll, b, b', Bool.and_self], by simp only [PyData.leavesShortAll, c, c', Bool.and_self], ?_, ?_, by simp only [PyData.canLayAll0, l, l', Bool.and_self]⟩
  · rw [PyData.weightAll]
    omega
  · rw [PyData.depthAll]
    exact Nat.max_le.mpr ⟨f, f'⟩
theorem fitL_tup {k w : Nat} {ds : List D} (h : FitL k w ds) : Fit (k + 1) w (.tup ds) := by
  obtain ⟨ps, a, b, c, e, f, l⟩ := h.ex
  refine ⟨.tuple ps, by simp only [toPy, a, Option.map_some], by simp only [PyData.showable, b], by simp only [PyData.leavesShort, c], ?_, ?_, by simp only [PyData.canLay0, l]⟩
  · rw [PyData.weight]; exact e
  · rw [PyData.depth]; omega
theorem fit_lD {l : Option Str} (h : ShO l) : Fit 0 40 (lD l) := by
  cases l with
  | none => exact fit_non.mono (by omega) (by omega)
  | some x => exact fit_str (sh_wd (h x rfl))
theorem fit_sh {x : Str} {k : Nat} (h : Sh x) : Fit k 40 (.str x) := (fit_str (sh_wd h)).mono (by omega) (by omega)
def Keep (hc hc' : Hc) : Prop := hc.next ≤ hc'.next ∧ ∀ q, q ≠ 0 → q < hc.next → hc'.get q = hc.get q
theorem Keep.refl (hc : Hc) : Keep hc hc := ⟨Nat.le_refl _, fun _ _ _ => rfl⟩
theorem Keep.trans {a b c : Hc} (x : Keep a b) (y : Keep b c) : Keep a c := ⟨Nat.le_trans x.1 y.1, fun q h1 h2 => (y.2 q h1 (Nat.lt_of_lt_of_le h2 x.1)).trans (x.2 q h1 h2)⟩
theorem keep_same {hc hc' : Hc} (s : Same 0 hc hc') : Keep hc hc' := ⟨by rw [s.1]; exact Nat.le_refl _, fun q h _ => s.2 q h⟩
theorem keep_new {hc : Hc} {o : Ob} : Keep hc (hc.new o) := ⟨Nat.le_succ _, fun q _ h => by rw [Hc.get_new, if_neg (by omega)]⟩
theorem bud_get {n : Nat} {hc hc' : Hc} (h : Bud 0 n hc) (e : hc'.get 0 = hc.get 0) : Bud 0 n hc' := by
  obtain ⟨B, ⟨cs, i, v, p, r⟩, hb⟩ := h
  refine ⟨B, ⟨cs, i, v, ?_, r⟩, hb⟩
  unfold PenAt at *
  rw [e]
  exact p
theorem bud_new {n : Nat} {hc : Hc} {o : Ob} (h : Bud 0 n hc) (h1 : 1 ≤ hc.next) : Bud 0 n (hc.new o) := bud_get h (by rw [Hc.get_new, if_neg (by omega)])
theorem bud_set {n k : Nat} {hc : Hc} {o : Ob} (h : Bud 0 n hc) (h1 : k ≠ 0) : Bud 0 n (hc.set k o) := bud_get h (by rw [Hc.get_set, if_neg (Ne.symm h1)])
theorem drawE {sl : Sl} {hc : Hc} {n : Nat} {fu : Sl → Hc → Res D} {u : Nat} (j : Nat) (h0 : sl[j]? = some (some (.loc 0))) (e : fu sl hc = .ok (.int (u : Int)) hc) (b : Bud 0 (n + 1) hc) (hu : 0 < u) (hu2 : u < 1000) : ∃ r hc', callE c_draw (kA (vE j) (kA fu (nA))) sl hc = .ok (.int (r : Nat)) hc' ∧ r < u ∧ Bud 0 n hc' ∧ Same 0 hc hc' := by
  obtain ⟨r, hc', l, e2, b2, s2⟩ := bud_nat u b hu (by omega)
  exact ⟨r, hc', callO (kO (vO h0) (k1 e)) e2, l, b2, s2⟩
theorem drawC {sl : Sl} {hc : Hc} {n : Nat} {i : Int} (u : Nat) (j : Nat) (hi : i = (u : Int)) (h0 : sl[j]? = some (some (.loc 0))) (b : Bud 0 (n + 1) hc) (hu : 0 < u) (hu2 : u < 1000) : ∃ r hc', callE c_draw (kA (vE j) (kA (cE (.int i)) (nA))) sl hc = .ok (.int (r : Nat)) hc' ∧ r < u ∧ Bud 0 n hc' ∧ Same 0 hc hc' := by
  subst hi
  exact drawE j h0 rfl b hu hu2
theorem len_of {hc : Hc} {r : Nat} {zs : List D} (h : hc.get r = some (.lst zs)) : lenD hc [.loc r] = some (.int (zs.length : Int)) := by
  simp only [lenD, Hc.lst?, h, Option.map_some]
theorem erase_map {α β : Type} (f : α → β) : ∀ (l : List α) (k : Nat), (l.map f).eraseIdx k = (l.eraseIdx k).map f
  | [], _ => rfl
  | _ :: _, 0 => rfl
  | a :: l, k + 1 => by simp only [List.map_cons, List.eraseIdx_cons_succ, erase_map f l k]
theorem pops {r : Nat} (hr : r ≠ 0) (a b : Option D) : ∀ (ds : List D) (zs : List Str) (hc : Hc) (n : Nat), ds.length ≤ zs.length → zs.length ≤ 100 → hc.get r = some (.lst (zs.map D.str)) → Bud 0 (n + ds.length) hc →
    ∃ (ys : List Str) (hc' : Hc), mapC (nmG 4) yT (mtE popD (vE 3) (kA (callE c_draw (kA (vE 0) (kA (blE lenD (kA (vE 3) (nA))) (nA)))) (nA))) [some (.loc 0), a, b, some (.loc r), none] ds hc = .ok (ys.map D.str) hc' ∧ (∀ y ∈ ys, y ∈ zs) ∧ ys.length = ds.length ∧ Bud 0 n hc' ∧ hc'.next = hc.next ∧ ∀ q, q ≠ 0 → q ≠ r → hc'.get q = hc.get q
  | [], zs, hc, n, h1, h2, hg, bu => ⟨[], hc, rfl, nofun, rfl, bu.mono (by simp), rfl, fun _ _ _ => rfl⟩
  | d :: ds, zs, hc, n, h1, h2, hg, bu => by
    have hz : 0 < zs.length := by simp only [List.length_cons] at h1; omega
    obtain ⟨k, hc1, e1, l1, b1, s1⟩ := drawE (sl := [some (.loc 0), a, b, some (.loc r), some d]) (hc := hc) (n := n + ds.length) (fu := blE lenD (kA (vE 3) (nA))) (u := zs.length) 0 rfl (by have := len_of hg; rw [List.length_map] at this; exact blO (k1 rfl) this) (bu.mono (by simp; omega)) hz (by omega)
    have hg1 : hc1.get r = some (.lst (zs.map D.str)) := by rw [s1.2 r hr]; exact hg
    have il : isLoc hc (.loc r) = true := by simp only [isLoc, hg]
    have hy : (zs.map D.str)[k]? = some (.str zs[k]) := by rw [List.getElem?_map, List.getElem?_eq_getElem l1]; rfl
    have hp : popD hc1 (.loc r) [.int (k : Int)] = some (.str zs[k], hc1.set r (.lst ((zs.eraseIdx k).map D.str))) := by
      have c : (decide (-(2 ^ 63) ≤ (k : Int)) && decide ((k : Int) < 2 ^ 63)) = true := by
        rw [Bool.and_eq_true]
        exact ⟨decide_eq_true (by omega), decide_eq_true (by omega)⟩
      have sq : seqIndex? (k : Int) (zs.map D.str).length = some k := by
        have := seqIndex_of (k := (k : Int)) (n := (zs.map D.str).length) (by omega) (by rw [List.length_map]; omega)
        rw [this]
        simp
      simp only [popD, hg1, c, if_true, sq, Option.bind_some, hy, Option.map_some]
      rw [erase_map]
    have hg2 : (hc1.set r (.lst ((zs.eraseIdx k).map D.str))).get r = some (.lst ((zs.eraseIdx k).map D.str)) := by rw [Hc.get_set, if_pos rfl, hg1]; rfl
    have le : (zs.eraseIdx k).length = zs.length - 1 := by rw [List.length_eraseIdx, if_pos l1]
    obtain ⟨ys, hc2, e2, m2, l2, b2, n2, k2⟩ := pops hr a b ds (zs.eraseIdx k) (hc1.set r (.lst ((zs.eraseIdx k).map D.str))) n (by rw [le]; simp only [List.length_cons] at h1; omega) (by omega) hg2 (bud_set b1 hr)
    refine ⟨zs[k] :: ys, hc2, ?_, fun y hy => ?_, by simp [l2], b2, by rw [n2]; exact s1.1, fun q h0 h3 => ?_⟩
    · have e3 : mtE popD (vE 3) (kA (callE c_draw (kA (vE 0) (kA (blE lenD (kA (vE 3) (nA))) (nA)))) (nA)) [some (.loc 0), a, b, some (.loc r), some d] hc = .ok (.str zs[k]) (hc1.set r (.lst ((zs.eraseIdx k).map D.str))) := mtO (d := .loc r) rfl il (k1 e1) hp
      have f : nmG 4 d [some (.loc 0), a, b, some (.loc r), none] = some [some (.loc 0), a, b, some (.loc r), some d] := rfl
      simp only [mapC, f, yT, Res.bind, if_true, e3, e2, List.map_cons]
    · rcases List.mem_cons.mp hy with rfl | hy
      · exact List.getElem_mem l1
      · exact List.mem_of_mem_eraseIdx (m2 y hy)
    · rw [k2 q h0 h3, Hc.get_set, if_neg h3, s1.2 q h0]
def d_some : Sl → Hc → RS :=
  seqS (asgS 3 (nlE (kA (vE 1) (nA))))
  (retS (lcE [4] (nmG 4) (itE itR (callE c_draw (kA (vE 0) (kA (opE addD (blE minD (kA (vE 2) (kA (blE lenD (kA (vE 3) (nA))) (nA)))) (cE (.int 1))) (nA))))) (yT) (mtE popD (vE 3) (kA (callE c_draw (kA (vE 0) (kA (blE lenD (kA (vE 3) (nA))) (nA)))) (nA)))))
def c_some : List D → Hc → Res D := fnR 3 5 d_some
def d_worths : Sl → Hc → RS :=
  seqS (asgS 1 (blE sortedD (kA (callE c_some (kA (vE 0) (kA (lstE (kA (cE (.str "a")) (kA (cE (.str "b")) (kA (cE (.str "c")) (kA (cE (.str "ulm")) (nA)))))) (kA (cE (.int 3)) (nA))))) (nA))))
  (retS (ifE (bT (opE neO (vE 1) (lstE (nA)))) (blE tupleD (kA (vE 1) (nA))) (tupE (kA (cE (.str "b")) (nA)))))
def c_worths : List D → Hc → Res D := fnR 1 2 d_worths
theorem rangeO (hc : Hc) {n : Nat} (h : n ≤ 1000) : itR hc (.int (n : Int)) = some (Bo.upTo 0 n) := by
  unfold itR
  have c : (decide (-2 ^ 62 ≤ (n : Int)) && decide ((n : Int) < 2 ^ 62)) = true := by
    rw [Bool.and_eq_true]
    exact ⟨decide_eq_true (by omega), decide_eq_true (by omega)⟩
  simp only [Int.toNat_natCast, c, if_true]
theorem upTo_len (n : Nat) : (Bo.upTo 0 n).length = n := by unfold Bo.upTo; simp
theorem some_spec {hc : Hc} {n m : Nat} {d : D} {xs : List Str} (h1 : 1 ≤ hc.next) (b : Bud 0 (n + 10) hc) (hm : m ≤ 5) (hx : xs.length ≤ 100) (hd : seqOf hc d = some (xs.map D.str)) : ∃ (ys : List Str) (hc' : Hc), c_some [.loc 0, d, .int (m : Int)] hc = .ok (.lst (ys.map D.str)) hc' ∧ (∀ y ∈ ys, y ∈ xs) ∧ ys.length ≤ m ∧ Bud 0 n hc' ∧ Keep hc hc' := by
  obtain ⟨r, hr⟩ : ∃ r, r = hc.next := ⟨_, rfl⟩
  obtain ⟨hcn, hn⟩ : ∃ hcn, hcn = hc.new (.lst (xs.map D.str)) := ⟨_, rfl⟩
  have gr : hcn.get r = some (.lst (xs.map D.str)) := by rw [hn, hr, Hc.get_new, if_pos rfl]
  have bn : Bud 0 (n + 10) hcn := by rw [hn]; exact bud_new b h1
  have t1 : asgS 3 (nlE (kA (vE 1) (nA))) [some (.loc 0), some d, some (.int (m : Int)), none, none] hc = .nx [some (.loc 0), some d, some (.int (m : Int)), some (.loc r), none] hcn := by
    rw [hr, hn]
    exact asgO (nlO (k1 rfl) hd)
  obtain ⟨u, hu⟩ : ∃ u : Nat, u = (if xs.length < m then xs.length else m) + 1 := ⟨_, rfl⟩
  have hub : u ≤ 6 ∧ 0 < u ∧ u ≤ xs.length + 1 ∧ u ≤ m + 1 := by
    rw [hu]
    split <;> omega
  have eu : opE addD (blE minD (kA (vE 2) (kA (blE lenD (kA (vE 3) (nA))) (nA)))) (cE (.int 1)) [some (.loc 0), some d, some (.int (m : Int)), some (.loc r), none] hcn = .ok (.int (u : Int)) hcn := by
    have ln := len_of gr
    rw [List.length_map] at ln
    have mn : minD hcn [.int (m : Int), .int (xs.length : Int)] = some (.int ((if xs.length < m then xs.length else m : Nat) : Int)) := by
      simp only [minD]
      congr 2
      by_cases q : xs.length < m
      · rw [if_pos q, if_pos (by omega)]
      · rw [if_neg q, if_neg (by omega)]
    refine opO (blO (kO rfl (k1 (blO (k1 rfl) ln))) mn) (b := .int 1) rfl ?_
    show some (D.int (((if xs.length < m then xs.length else m : Nat) : Int) + 1)) = _
    rw [hu]
    rfl
  obtain ⟨k, hc1, e1, l1, b1, s1⟩ := drawE (sl := [some (.loc 0), some d, some (.int (m : Int)), some (.loc r), none]) (n := n + 9) 0 rfl eu bn hub.2.1 (by omega)
  have hr0 : r ≠ 0 := by omega
  have g1 : hc1.get r = some (.lst (xs.map D.str)) := by rw [s1.2 r hr0]; exact gr
  obtain ⟨ys, hc2, e2, m2, l2, b2, n2, k2⟩ := pops hr0 (some d) (some (.int (m : Int))) (Bo.upTo 0 k) xs hc1 n (by rw [upTo_len]; omega) hx g1 (b1.mono (by rw [upTo_len]; omega))
  rw [upTo_len] at l2
  refine ⟨ys, hc2, fnO rfl ((seqN t1).trans (retO (lcO (itO e1 (rangeO hc1 (by omega))) e2 (by rw [List.length_map]; omega)))), m2, by omega, b2, ?_, fun q h0 hq => ?_⟩
  · rw [n2, s1.1, hn]
    exact Nat.le_succ _
  · rw [k2 q h0 (by omega), s1.2 q h0, hn, Hc.get_new, if_neg (by omega)]
theorem map_of {α : Type} {f : Str → α} {xs : List Str} : ∀ {l : List α}, (∀ k ∈ l, k ∈ xs.map f) → ∃ ys : List Str, l = ys.map f ∧ ∀ y ∈ ys, y ∈ xs
  | [], _ => ⟨[], rfl, nofun⟩
  | k :: l, h => by
    obtain ⟨ys, e, hy⟩ := map_of fun z hz => h z (List.mem_cons_of_mem _ hz)
    obtain ⟨x, hx, ex⟩ := List.mem_map.mp (h k List.mem_cons_self)
    refine ⟨x :: ys, by rw [e, List.map_cons, ex], fun y hy' => ?_⟩
    rcases List.mem_cons.mp hy' with rfl | hy'
    · exact hx
    · exact hy y hy'
theorem sort_strs {hc : Hc} {xs : List Str} (hl : xs.length ≤ 1000) : ∃ ys : List Str, sortedD hc [.lst (xs.map D.str)] = some (.lst (ys.map D.str)) ∧ (∀ y ∈ ys, y ∈ xs) ∧ ys.length = xs.length := by
  have hz : xs.length ≤ sizeLine := by rw [sizeLine_eq]; omega
  have ok : sortOk (xs.map D.str) = true := by
    have py : (xs.map D.str).map pyD = xs.map PyData.str := by
      rw [List.map_map]
      rfl
    unfold sortOk
    rw [py, toPys_strs]
    simp only [Option.isSome_some, Bool.true_and, List.length_map, hz, decide_true, Bool.and_eq_true, Bool.or_eq_true, List.all_eq_true]
    refine ⟨fun p hp q hq => ?_, .inr fun p hp => ?_, fun p hp => ?_⟩
    · obtain ⟨x, _, rfl⟩ := List.mem_map.mp hp
      obtain ⟨y, _, rfl⟩ := List.mem_map.mp hq
      simp [PySem.W.alike]
    · obtain ⟨x, _, rfl⟩ := List.mem_map.mp hp
      rfl
    · obtain ⟨x, _, rfl⟩ := List.mem_map.mp hp
      simp [PyData.depth]
  have pm : (sortL (xs.map D.str)).Perm (xs.map D.str) := List.mergeSort_perm _ _
  obtain ⟨ys, e, hy⟩ := map_of (f := D.str) (xs := xs) (l := sortL (xs.map D.str)) fun k hk => pm.mem_iff.mp hk
  refine ⟨ys, ?_, hy, ?_⟩
  · simp only [sortedD, Hc.lst?, Option.bind_some, ok, if_true, e]
  · have := pm.length_eq
    rw [e, List.length_map, List.length_map] at this
    exact this
theorem atS {xs : List Str} {k : Nat} (h : k < xs.length) : ∃ x ∈ xs, atI (xs.map D.str) (k : Int) = some (.str x) := by
  refine ⟨xs[k], List.getElem_mem h, ?_⟩
  unfold atI
  have : ixN (xs.map D.str).length (k : Int) = some k := by
    unfold ixN
    rw [if_pos (by omega), if_pos (by rw [List.length_map]; omega)]
    simp
  rw [this]
  simp [List.getElem?_eq_getElem h]
theorem pick {hc : Hc} {sl : Sl} {n u : Nat} {i : Int} {fl : Sl → Hc → Res D} {xs : List Str} (j : Nat) (hi : i = (u : Int)) (h0 : sl[j]? = some (some (.loc 0))) (b : Bud 0 (n + 1) hc) (e : fl sl hc = .ok (.lst (xs.map D.str)) hc) (hl : xs.length = u) (hu : 0 < u) (hu2 : u < 1000) :
    ∃ x hc', x ∈ xs ∧ opE ixD fl (callE c_draw (kA (vE j) (kA (cE (.int i)) (nA)))) sl hc = .ok (.str x) hc' ∧ Bud 0 n hc' ∧ Same 0 hc hc' := by
  obtain ⟨r, hc', e1, l1, b1, s1⟩ := drawC u j hi h0 b hu hu2
  obtain ⟨x, hx, ex⟩ := atS (xs := xs) (k := r) (by omega)
  exact ⟨x, hc', hx, opO e e1 (show atI (xs.map D.str) (r : Int) = _ from ex), b1, s1⟩
theorem coin {hc : Hc} {sl : Sl} {n : Nat} {i : Int} (u j : Nat) (hi : i = (u : Int)) (h0 : sl[j]? = some (some (.loc 0))) (b : Bud 0 (n + 1) hc) (hu : 0 < u) (hu2 : u < 1000) :
    ∃ t hc', opE eqO (callE c_draw (kA (vE j) (kA (cE (.int i)) (nA)))) (cE (.int 0)) sl hc = .ok (.bl t) hc' ∧ Bud 0 n hc' ∧ Same 0 hc hc' := by
  obtain ⟨r, hc', e1, l1, b1, s1⟩ := drawC u j hi h0 b hu hu2
  exact ⟨decide ((r : Int) = 0), hc', opO e1 (b := .int 0) rfl rfl, b1, s1⟩
theorem worths_spec {hc : Hc} {n : Nat} (h1 : 1 ≤ hc.next) (b : Bud 0 (n + 10) hc) : ∃ (ws : List Str) (hc' : Hc), c_worths [.loc 0] hc = .ok (.tup (ws.map D.str)) hc' ∧ (∀ w ∈ ws, Sh w) ∧ ws.length ≤ 3 ∧ Bud 0 n hc' ∧ Keep hc hc' := by
  have sh4 : ∀ w ∈ (["a", "b", "c", "ulm"] : List Str), Sh w := fun w hw => by
    have : ∀ w ∈ (["a", "b", "c", "ulm"] : List Str), shB w = true := List.all_eq_true.mp (by decide +kernel)
    exact sh_of (this w hw)
  obtain ⟨ys, hc1, e1, m1, l1, b1, k1'⟩ := some_spec (hc := hc) (n := n) (m := 3) (d := .lst ((["a", "b", "c", "ulm"] : List Str).map D.str)) (xs := ["a", "b", "c", "ulm"]) h1 b (by omega) (by simp) rfl
  obtain ⟨zs, e2, m2, l2⟩ := sort_strs (hc := hc1) (xs := ys) (by omega)
  have lit : lstE (kA (cE (.str "a")) (kA (cE (.str "b")) (kA (cE (.str "c")) (kA (cE (.str "ulm")) (nA))))) [some (.loc 0), none] hc = .ok (.lst ((["a", "b", "c", "ulm"] : List Str).map D.str)) hc := rfl
  have e1' : c_some [.loc 0, .lst ((["a", "b", "c", "ulm"] : List Str).map D.str), .int 3] hc = .ok (.lst (ys.map D.str)) hc1 := e1
  have t1 : asgS 1 (blE sortedD (kA (callE c_some (kA (vE 0) (kA (lstE (kA (cE (.str "a")) (kA (cE (.str "b")) (kA (cE (.str "c")) (kA (cE (.str "ulm")) (nA)))))) (kA (cE (.int 3)) (nA))))) (nA))) [some (.loc 0), none] hc = .nx [some (.loc 0), some (.lst (zs.map D.str))] hc1 :=
    asgO (blO (k1 (callO (kO rfl (kO lit (k1 rfl))) e1')) e2)
  have ok : ∀ x ∈ zs, PyData.strOk x = true := fun x hx => (sh_wd (sh4 x (m1 x (m2 x hx)))).ok
  have ne : neO hc1 (.lst (zs.map D.str)) (.lst []) = some (.bl (!decide (zs = []))) := by
    have e := eq_strs (hc := hc1) (xs := zs) (ys := []) ok nofun
    unfold eqO at e
    obtain ⟨q, h1, h2⟩ := Option.map_eq_some_iff.mp e
    cases h2
    unfold neO
    have h1' : eqD hc1 (.lst (zs.map D.str)) (.lst []) = some (decide (zs = [])) := h1
    rw [h1']
    rfl
  have te : bT (opE neO (vE 1) (lstE (nA))) [some (.loc 0), some (.lst (zs.map D.str))] hc1 = .ok (!decide (zs = [])) hc1 := bO (opO (a := .lst (zs.map D.str)) (b := .lst []) rfl rfl ne)
  have shb : ∀ w ∈ ((["b"] : List Str)), Sh w := fun w hw => by
    have e : w = Str.ofString "b" := by simpa using hw
    rw [e]
    exact sh_of (by decide +kernel)
  by_cases q : zs = []
  · rw [decide_eq_true q] at te
    exact ⟨["b"], hc1, fnO rfl ((seqN t1).trans (retO (ifeN te rfl))), shb, by simp, b1, k1'⟩
  · rw [decide_eq_false q] at te
    exact ⟨zs, hc1, fnO rfl ((seqN t1).trans (retO (ifeY te rfl))), fun w hw => sh4 w (m1 w (m2 w hw)), by omega, b1, k1'⟩
theorem worths_mem {hc : Hc} {n : Nat} (h1 : 1 ≤ hc.next) (b : Bud 0 (n + 10) hc) : ∃ (ws : List Str) (hc' : Hc), c_worths [.loc 0] hc = .ok (.tup (ws.map D.str)) hc' ∧ (∀ w ∈ ws, w ∈ (["a", "b", "c", "ulm"] : List Str)) ∧ 0 < ws.length ∧ ws.length ≤ 3 ∧ Bud 0 n hc' ∧ Keep hc hc' := by
  have sh4 : ∀ w ∈ (["a", "b", "c", "ulm"] : List Str), Sh w := fun w hw => by
    have : ∀ w ∈ (["a", "b", "c", "ulm"] : List Str), shB w = true := List.all_eq_true.mp (by decide +kernel)
    exact sh_of (this w hw)
  obtain ⟨ys, hc1, e1, m1, l1, b1, k1'⟩ := some_spec (hc := hc) (n := n) (m := 3) (d := .lst ((["a", "b", "c", "ulm"] : List Str).map D.str)) (xs := ["a", "b", "c", "ulm"]) h1 b (by omega) (by simp) rfl
  obtain ⟨zs, e2, m2, l2⟩ := sort_strs (hc := hc1) (xs := ys) (by omega)
  have lit : lstE (kA (cE (.str "a")) (kA (cE (.str "b")) (kA (cE (.str "c")) (kA (cE (.str "ulm")) (nA))))) [some (.loc 0), none] hc = .ok (.lst ((["a", "b", "c", "ulm"] : List Str).map D.str)) hc := rfl
  have e1' : c_some [.loc 0, .lst ((["a", "b", "c", "ulm"] : List Str).map D.str), .int 3] hc = .ok (.lst (ys.map D.str)) hc1 := e1
  have t1 : asgS 1 (blE sortedD (kA (callE c_some (kA (vE 0) (kA (lstE (kA (cE (.str "a")) (kA (cE (.str "b")) (kA (cE (.str "c")) (kA (cE (.str "ulm")) (nA)))))) (kA (cE (.int 3)) (nA))))) (nA))) [some (.loc 0), none] hc = .nx [some (.loc 0), some (.lst (zs.map D.str))] hc1 :=
    asgO (blO (k1 (callO (kO rfl (kO lit (k1 rfl))) e1')) e2)
  have ok : ∀ x ∈ zs, PyData.strOk x = true := fun x hx => (sh_wd (sh4 x (m1 x (m2 x hx)))).ok
  have ne : neO hc1 (.lst (zs.map D.str)) (.lst []) = some (.bl (!decide (zs = []))) := by
    have e := eq_strs (hc := hc1) (xs := zs) (ys := []) ok nofun
    unfold eqO at e
    obtain ⟨q, h1, h2⟩ := Option.map_eq_some_iff.mp e
    cases h2
    unfold neO
    have h1' : eqD hc1 (.lst (zs.map D.str)) (.lst []) = some (decide (zs = [])) := h1
    rw [h1']
    rfl
  have te : bT (opE neO (vE 1) (lstE (nA))) [some (.loc 0), some (.lst (zs.map D.str))] hc1 = .ok (!decide (zs = [])) hc1 := bO (opO (a := .lst (zs.map D.str)) (b := .lst []) rfl rfl ne)
  have shb : ∀ w ∈ ((["b"] : List Str)), Sh w := fun w hw => by
    have e : w = Str.ofString "b" := by simpa using hw
    rw [e]
    exact sh_of (by decide +kernel)
  by_cases q : zs = []
  · rw [decide_eq_true q] at te
    exact ⟨["b"], hc1, fnO rfl ((seqN t1).trans (retO (ifeN te rfl))), fun w hw => (by have e : w = Str.ofString "b" := (by simpa using hw); rw [e]; simp), by simp, by simp, b1, k1'⟩
  · rw [decide_eq_false q] at te
    exact ⟨zs, hc1, fnO rfl ((seqN t1).trans (retO (ifeY te rfl))), fun w hw => m1 w (m2 w hw), List.length_pos_iff.mpr q, by omega, b1, k1'⟩
theorem sh_in {xs : List Str} (h : xs.all shB = true) : ∀ x ∈ xs, Sh x := fun x hx => sh_of (List.all_eq_true.mp h x hx)
theorem nin_loc {hc : Hc} {l : Nat} {ls : List Str} {x : Str} (hg : hc.get l = some (.lst (ls.map D.str))) (hs : ∀ y ∈ ls, Sh y) (hx : Sh x) : ∃ b, ninO hc (.str x) (.loc l) = some (.bl b) ∧ (ls = [] → b = true) := by
  have e : inD hc (.str x) (.loc l) = some ((ls.map PyData.str).any fun q => PyData.eqv q (.str x)) := by
    show (match toPy1 hc (.str x), toPy1 hc (.loc l) with
      | some p, some (.list qs) => if SeqAt.shaped p && SeqAt.shaped (.list qs) then some (qs.any fun q => PyData.eqv q p) else none
      | _, _ => none) = _
    have t1 : toPy1 hc (.str x) = some (.str x) := rfl
    have t2 : toPy1 hc (.loc l) = some (.list (ls.map PyData.str)) := by
      simp only [toPy1, hg, toPys_strs, Option.map_some]
    rw [t1, t2]
    simp only [shaped_str (sh_wd hx).ok, (shaped_strs fun y hy => (sh_wd (hs y hy)).ok).1, Bool.and_self, if_true]
  refine ⟨!((ls.map PyData.str).any fun q => PyData.eqv q (.str x)), ?_, fun h => by subst h; rfl⟩
  unfold ninO
  rw [e]
  rfl
theorem get_set_self {hc : Hc} {k : Nat} {o o' : Ob} (h : hc.get k = some o) : (hc.set k o').get k = some o' := by rw [Hc.get_set, if_pos rfl, h]; rfl
theorem get_set_ne {hc : Hc} {k q : Nat} {o' : Ob} (h : q ≠ k) : (hc.set k o').get q = hc.get q := by rw [Hc.get_set, if_neg h]
theorem app_of {hc : Hc} {k : Nat} {ds : List D} {v : D} (h : hc.get k = some (.lst ds)) (hl : ds.length ≤ 1000) : appD hc (.loc k) [v] = some (.non, hc.set k (.lst (ds ++ [v]))) := by
  have : ds.length < sizeLine := by rw [sizeLine_eq]; omega
  simp only [appD, h, if_pos this]
theorem loc_of {hc : Hc} {k : Nat} {ds : List D} (h : hc.get k = some (.lst ds)) : isLoc hc (.loc k) = true := by simp only [isLoc, h]
theorem tuple_of {hc : Hc} {k : Nat} {ds : List D} (h : hc.get k = some (.lst ds)) : tupleD hc [.loc k] = some (.tup ds) := by
  simp only [tupleD, Hc.lst?, h, Option.map_some]
theorem one_more {sl : Sl} {hc : Hc} {n : Nat} {fu : Sl → Hc → Res D} {u : Nat} (h0 : sl[0]? = some (some (.loc 0))) (e : fu sl hc = .ok (.int (u : Int)) hc) (b : Bud 0 (n + 1) hc) (hu : 0 < u) (hu2 : u ≤ 100) : ∃ (m : Nat) (hc' : Hc), itE itR (opE addD (cE (.int 1)) (callE c_draw (kA (vE 0) (kA fu (nA))))) sl hc = .ok (Bo.upTo 0 m) hc' ∧ 1 ≤ m ∧ m ≤ u ∧ Bud 0 n hc' ∧ Same 0 hc hc' := by
  obtain ⟨k, hc', e1, l1, b1, s1⟩ := drawE (sl := sl) (hc := hc) (n := n) (fu := fu) (u := u) 0 h0 e b hu (by omega)
  refine ⟨k + 1, hc', itO (d := .int ((k + 1 : Nat) : Int)) (opO (a := .int 1) rfl e1 ?_) (rangeO hc' (by omega)), by omega, by omega, b1, s1⟩
  show some (D.int (1 + (k : Int))) = _
  congr 2
  omega
theorem orN {t u : Sl → Hc → Res Bool} {sl : Sl} {hc hc1 : Hc} {q : Res Bool} (e1 : t sl hc = .ok false hc1) (e2 : u sl hc1 = q) : orT t u sl hc = q := by
  unfold orT
  rw [e1]
  exact e2
theorem ne_same {hc : Hc} (x : Str) : neO hc (.str x) (.str x) = some (.bl false) := by
  have e := eq_same (hc := hc) x
  unfold eqO at e
  obtain ⟨q, h1, h2⟩ := Option.map_eq_some_iff.mp e
  cases h2
  unfold neO
  rw [h1]
  rfl
theorem at0 {x : D} {r : List D} : atI (x :: r) 0 = some x := by
  unfold atI ixN
  rw [if_pos (by omega), if_pos (by simp only [List.length_cons]; omega)]
  rfl
theorem at1 {x y : D} {r : List D} : atI (x :: y :: r) 1 = some y := by
  unfold atI ixN
  rw [if_pos (by omega), if_pos (by simp only [List.length_cons]; omega)]
  rfl
theorem chosen {R : D → Str → Prop} : ∀ {ys : List D}, (∀ y ∈ ys, ∃ t, R y t) → ∃ ps : List (D × Str), ps.map (fun p => p.1) = ys ∧ ∀ p ∈ ps, R p.1 p.2
  | [], _ => ⟨[], rfl, nofun⟩
  | y :: ys, h => by
    obtain ⟨t, ht⟩ := h y List.mem_cons_self
    obtain ⟨ps, e, hp⟩ := chosen fun z hz => h z (List.mem_cons_of_mem _ hz)
    refine ⟨(y, t) :: ps, by rw [List.map_cons, e], fun p hp' => ?_⟩
    rcases List.mem_cons.mp hp' with rfl | hp'
    · exact ht
    · exact hp p hp'
end Bo

set_option Elab.async false
set_option linter.all false
set_option maxRecDepth 100000
set_option maxHeartbeats 4000000
set_option autoImplicit false
/-! Bo30: range(a, b); t[::-1] of a tuple. -/
namespace Bo
open PySem PySem.Spec PyProof.Rows L2

/-! ### range(a, b) -/
def rgD : List D → Option (List D)
  | [.int i, .int j] => if decide (-(2 ^ 62) ≤ i) && (decide (i < 2 ^ 62) && (decide (-(2 ^ 62) ≤ j) && decide (j < 2 ^ 62))) then some (upTo i (j - i).toNat) else none
  | _ => none
def rg2E (fs : Sl → Hc → Res (List D)) : Sl → Hc → Res (List D) := fun sl hc => (fs sl hc).bind fun ds hc1 => match rgD ds with
  | some xs => .ok xs hc1
  | none => .bad
section
variable {X : Cx} {g : Gx} {W : WX} {kk : Nat} {tg a b : Expr} {fs : Sl → Hc → Res (List D)} {p pos : Pos}
theorem i_range2 (ha : PA X [a, b] (aI g W fs)) (hm : X.mg "range" = none) (hg : Gl X "range" := by rfl) (hs : starEach [a, b] X.env = [(false, eval a X.env), (false, eval b X.env)] := by rfl) (hs2 : starEach [b] X.env = [(false, eval b X.env)] := by rfl) :
    PI X tg (.Call (.Name "range" p) [a, b] [] pos) (iI g W (rg2E fs)) := by
  refine pi_imp (pi_range2 hg hm ha hs hs2) fun σ H R ⟨z, sl, hc, hs, st, h⟩ => ⟨z, sl, hc, hs, st, ?_⟩
  unfold rg2E at h
  revert h
  cases fs sl hc with
  | bad => exact fun h => h
  | exc c hc1 => exact fun h => h
  | ok ds hc1 =>
    intro h z1 H1 vs x1 s1 r1
    simp only [Res.bind] at h
    cases e : rgD ds with
    | none => rw [e] at h; exact h.elim
    | some xs =>
      rw [e] at h
      simp only at h
      unfold rgD at e
      split at e
      · rename_i i j
        split at e
        · rename_i hb
          cases e
          simp only [Bool.and_eq_true, decide_eq_true_eq] at hb
          cases r1 with
          | cons q1 t1 => cases t1 with
            | cons q2 t2 =>
              cases t2
              cases q1
              cases q2
              refine ⟨i, j, rfl, ⟨hb.1, hb.2.1, hb.2.2.1, hb.2.2.2⟩, h z1 H1 x1 (hs.ext x1) s1 _ (fun _ => True) _ (by rw [upTo, List.length_map, List.length_range]; exact walk_range) (fun _ _ _ _ _ => trivial) ?_⟩
              rintro m H2 v H3 z2 hc hi xx ss ⟨rfl, rfl⟩
              refine ⟨z2, .int (i + (m : Nat)), .refl _ _, ss, ?_, .int _⟩
              rw [upTo, List.length_map, List.length_range] at hi
              rw [upTo, List.getElem?_map, List.getElem?_range hi]
              rfl
        · cases e
      · cases e
end
/-! ### t[::-1] -/
theorem adjust_rev (n : Nat) : Builtin.Slice.sliceAdjust none none (-1) (n : Int) = ((n : Int) - 1, -1) := by
  unfold Builtin.Slice.sliceAdjust
  rfl
theorem places_rev (n : Nat) : Builtin.Slice.slicePlaces ((n : Int) - 1) (-1) (-1) = n := by
  unfold Builtin.Slice.slicePlaces
  have h1 : ¬ ((-1 : Int) > 0) := by omega
  rw [if_neg h1]
  by_cases h : (n : Int) - 1 > -1
  · rw [if_pos h]
    have : ((n : Int) - 1 - -1 - 1) / (- -1) + 1 = (n : Int) := by
      rw [show (- -1 : Int) = 1 by decide, Int.ediv_one]
      omega
    rw [this, Int.toNat_natCast]
  · rw [if_neg h]
    omega
theorem fmap_congr {α β : Type} {f g : α → Option β} : ∀ {l : List α}, (∀ a ∈ l, f a = g a) → l.filterMap f = l.filterMap g
  | [], _ => rfl
  | a :: l, h => by
    rw [List.filterMap_cons, List.filterMap_cons, h a List.mem_cons_self, fmap_congr fun b hb => h b (List.mem_cons_of_mem _ hb)]
theorem pick_rev (xs : Array Value) : ((List.range xs.size).filterMap fun (m : Nat) => xs[((xs.size : Int) - 1 + (m : Int) * -1).toNat]?).toArray = xs.toList.reverse.toArray := by
  have e : ((List.range xs.size).filterMap fun (m : Nat) => xs[((xs.size : Int) - 1 + (m : Int) * -1).toNat]?) = ((List.range xs.size).map fun k => xs.size - 1 - k).filterMap (xs[·]?) := by
    rw [List.filterMap_map]
    refine fmap_congr fun m hm => ?_
    have := List.mem_range.mp hm
    have e : ((xs.size : Int) - 1 + (m : Int) * -1).toNat = xs.size - 1 - m := by omega
    show xs[((xs.size : Int) - 1 + (m : Int) * -1).toNat]? = xs[xs.size - 1 - m]?
    rw [e]
  rw [e, PySem.W.krv_range, List.filterMap_reverse, PySem.W.krv_all]
section
variable {prog : Program} {w : World} {A : Around} {E : Value → Shared → Prop} {s : Shared}
theorem sliceApplied_rev {sl : Addr} {vs : Value} {n : Nat} {Q : Int × Int × Nat → Shared → Prop} (hs : s.heap.IsSliceOf sl .none .none vs) (ps : IsPart vs (some (-1)))
    (h : Q ((n : Int) - 1, -1, n) s) : wpAny (model prog w) A (Builtin.Slice.sliceApplied (.ref sl) (pure (n : Int))) Q E s := by
  obtain ⟨os, hos, hcs, hds⟩ := id hs
  unfold Builtin.Slice.sliceApplied Builtin.Slice.sliceFields
  refine wpAny_bind (wpAny_bind (wpAny_field hos hds (x := .none) rfl (wpAny_bind (wpAny_field hos hds (x := .none) rfl (wpAny_bind (wpAny_field hos hds (x := vs) rfl (wpAny_pure ?_)))))))
  refine wpAny_bind (HT.slicePart_ ps ?_)
  show wpAny _ _ (if ((-1 : Int) == 0) = true then _ else _) _ _ s
  rw [if_neg (by decide)]
  refine wpAny_bind (HT.slicePart_ .none (wpAny_bind (HT.slicePart_ .none (wpAny_bind (wpAny_pure ?_)))))
  show wpAny _ _ (match Builtin.Slice.sliceAdjust none none (-1) (n : Int) with | (lo, hi) => pure (lo, (-1 : Int), Builtin.Slice.slicePlaces lo hi (-1))) _ _ s
  rw [adjust_rev n]
  show wpAny _ _ (pure ((n : Int) - 1, (-1 : Int), Builtin.Slice.slicePlaces ((n : Int) - 1) (-1) (-1))) _ _ s
  rw [places_rev]
  exact wpAny_pure h
theorem getItem_tuple_rev {t sl : Addr} {items : Array Value} {vs : Value} {Q : Value → Shared → Prop} (ht : PyProof.Rows.IsTup s.heap t items) (hs : s.heap.IsSliceOf sl .none .none vs) (ps : IsPart vs (some (-1)))
    (h : Q (.ref s.heap.objs.size) { s with heap := s.heap.push { cls := .type "tuple", data := .seq items.toList.reverse.toArray } })
    (hsz : items.size ≤ sizeLine) : wpAny (model prog w) A (getItem (.ref t) (.ref sl)) Q E s := by
  have htake : sizeOk (.seq items.toList.reverse.toArray) := by
    show items.toList.reverse.toArray.size ≤ sizeLine
    rw [List.size_toArray, List.length_reverse, Array.length_toList]
    exact hsz
  obtain ⟨os, hos, hcs, hds⟩ := id hs
  have hTs : s.TypeIs (.ref sl) "slice" := ⟨os, hos, hcs⟩
  unfold getItem
  try with_reducible refine wpAny_holding ?_
  first | refine wpAny_bind (wpAny_pure ?_) | skip
  refine wpAny_bind (wpAny_sequenceKey ht.typeIs (by decide) ?_)
  refine wpAny_bind (wpAny_callSpecial?_slot (name := Str.ofString "__getitem__") ht.typeIs PyProof.Rows.slot_tuple_getitem
    (wpAny_call_entry PyProof.Rows.slot_tuple_getitem ht.typeIs PyProof.Rows.entry_tuple_getitem ?_ (PyProof.Rows.args_tuple_getitem _ _)))
  show wpAny _ _ (Builtin.Tuple.tupleItemsOf (.ref t) >>= _) _ _ s
  refine wpAny_bind (PyProof.Rows.tupleItemsOf_ ht ?_)
  refine wpAny_bind (wpAny_typeOf hTs ?_)
  rw [if_pos (by decide)]
  refine wpAny_bind (sliceApplied_rev hs ps ?_)
  have hno : ¬ ((((items.size : Int) - 1) == 0 && (-1 : Int) == 1 && items.size == items.size) = true) := by
    intro q
    rw [Bool.and_eq_true, Bool.and_eq_true] at q
    exact absurd q.1.2 (by decide)
  show wpAny _ _ (if (((items.size : Int) - 1) == 0 && (-1 : Int) == 1 && items.size == items.size) = true then _ else _) _ _ s
  rw [if_neg hno, pick_rev]
  first
    | exact wpAny_bind (m := Builtin.Tuple.tupleExact _) (wpAny_newObj_type (wpAny_pure ⟨_, rfl, wpAny_pure h⟩) htake)
    | exact wpAny_bind (m := Builtin.Tuple.tupleExact _) (wpAny_newObj_type (wpAny_bind (wpAny_pure (wpAny_pure ⟨_, rfl, wpAny_pure h⟩))) htake)
    | exact wpAny_bind (wpAny_bind (m := Builtin.Tuple.tupleExact _) (wpAny_newObj_type (wpAny_pure (wpAny_pure ⟨_, rfl, wpAny_pure h⟩)) htake))
    | exact wpAny_bind (wpAny_bind (m := Builtin.Tuple.tupleExact _) (wpAny_newObj_type (wpAny_pure ⟨_, rfl, wpAny_pure h⟩) htake))
end
def tRevT (K : PySem.W.Frag) (te : TE) : TE := fun σ H Q => te σ H fun x H1 => ∃ a xs, x = .ref a ∧ SqT K H1 a xs ∧ ∀ p, H1 p = none → Q (.ref p) (upd H1 p (.tup xs.reverse))
def rvD (_ : Hc) : D → Option D
  | .tup ds => some (.tup ds.reverse)
  | _ => none
theorem RelDs.reverse {g : Gx} {z : Fz} : ∀ {ds : List D} {vs : List V}, RelDs g z ds vs → RelDs g z ds.reverse vs.reverse
  | _, _, .nil => .nil
  | _, _, .cons h t => by
    rw [List.reverse_cons, List.reverse_cons]
    exact (RelDs.reverse t).append (.cons h .nil)
section
variable {X : Cx} {g : Gx} {W : WX} {kk : Nat}
theorem pe_revT {e : Expr} {te : TE} {k : Nat} {p1 p2 p3 pos : Pos} (he : PE X e te) : PE X (.Subscript e (.Slice none none (some (.UnaryOp .USub (.Constant (.int 1) k p1) p2)) p3) pos) (tRevT X.K te) := by
  refine ⟨fun pins s σ H Q I h => ?_⟩
  refine Subscript_ (thn (he.run pins s σ H _ I h) fun v s1 ⟨x, H1, I1, r1, q1⟩ => ?_)
  obtain ⟨a, xs, ex, hx, q⟩ := q1
  subst ex
  cases r1
  have hst : PO X (some (.UnaryOp .USub (.Constant (.int 1) k p1) p2)) (tPart (tUn (rU fun i => .int (-i)) (tC (.int 1)))) := po_some (pe_un un_neg pe_int)
  refine wpAny_Slice (thn (po_none.run pins s1 σ H1 (fun o H2 => o = none ∧ H2 = H1) I1 ⟨rfl, rfl⟩) fun vl s2 ⟨l, H2, I2, pl, el, e2⟩ => ?_)
  subst el e2
  refine thn (po_none.run pins s2 σ H2 (fun o H3 => o = none ∧ H3 = H2) I2 ⟨rfl, rfl⟩) fun vu s3 ⟨u, H3, I3, pu, eu, e3⟩ => ?_
  subst eu e3
  refine thn (hst.run pins s3 σ H3 (fun o H4 => o = some (-1) ∧ H4 = H3) I3 ⟨1, rfl, -1, rfl, rfl, rfl⟩) fun vs s4 ⟨o, H4, I4, ps, eo, e4⟩ => ?_
  subst eo e4
  have I5 : Inv X pins σ H4 { s4 with heap := s4.heap.push { cls := .type "slice", data := .fields #[vl, vu, vs] } } := I4.kept (t' := s4.toks) fun b ob q => Heap.get?_push_of_some _ q
  obtain ⟨its, r, ht, hz⟩ := I5.tuple hx
  have hlen := r.length
  cases pl
  cases pu
  show wpAny (model X.prog X.w) X.A (subscriptTail e (.Slice none none (some (.UnaryOp .USub (.Constant (.int 1) k p1) p2)) p3) (.ref a) (.ref s4.heap.objs.size)) (EP X pins σ Q) X.xe { s4 with heap := s4.heap.push { cls := .type "slice", data := .fields #[.none, .none, vs] } }
  refine tail_any (ops := [.ref a, .ref s4.heap.objs.size]) ht.typeIs (PyProof.Rows.slot_tuple_getitem.lookup) ?_ (by with_unfolding_all rfl)
  refine getItem_tuple_rev ht (Heap.IsSliceOf.new _ .none .none vs) ps ?_ (by rw [List.size_toArray]; omega)
  refine ⟨.ref _, _, I5.laid (t' := s4.toks) (o := .tup xs.reverse) (fun b ob q => Heap.get?_push_of_some _ q) (Nat.le_refl _) ?_, rfl, q _ (I5.hok.fresh (Nat.le_refl _))⟩
  exact ⟨by rw [List.length_reverse]; exact hz, _, r.reverse, PyProof.Rows.IsTup.new _ _⟩
theorem e_revT {e : Expr} {fa : Sl → Hc → Res D} {k : Nat} {p1 p2 p3 pos : Pos} (c : Ct X g W kk) (he : PE X e (tI g W fa)) : PE X (.Subscript e (.Slice none none (some (.UnaryOp .USub (.Constant (.int 1) k p1) p2)) p3) pos) (tI g W (unE rvD fa)) := by
  refine pe_imp (pe_revT he) fun σ H Q ⟨z, sl, hc, hs, st, h⟩ => ?_
  refine tI.mono (OutE.thenE (f := fa) hs st h) fun v H1 ⟨z1, d1, hc1, x1, hs1, st1, r1, o1⟩ => ?_
  obtain ⟨rr, er, hq⟩ := o1.lift
  have hK := c.hK
  cases r1 with
  | tup h1 q1 =>
    cases er
    refine ⟨_, _, rfl, by rw [hK]; exact SqT.mono st1.sub h1, fun p hp => ?_⟩
    obtain ⟨z2, x2, s2, r2⟩ := st1.newTup hp (RelDs.reverse q1)
    exact hq z2 _ _ x2 s2 r2
  | _ => cases er
end
/-! ### list(text) -/
theorem vals_signs : ∀ (l : List Nat) (us : List Value), us.length = l.length → (∀ (j : Nat) (v : Value), us[j]? = some v → ∃ c u, l[j]? = some c ∧ v = .str ⟨#[c]⟩ u) → Vals (l.map fun c => V.str ⟨#[c]⟩) us
  | [], [], _, _ => .nil
  | [], _ :: _, h, _ => by simp at h
  | _ :: _, [], h, _ => by simp at h
  | c :: l, u :: us, h, hv => by
    obtain ⟨d, t, e1, e2⟩ := hv 0 u rfl
    simp only [List.getElem?_cons_zero, Option.some.injEq] at e1
    subst e1 e2
    exact .cons ⟨t, rfl⟩ (vals_signs l us (by simpa using h) fun j v e => hv (j + 1) v (by simpa using e))
def listS (hc : Hc) : List D → Option D
  | [.str x] => if x.cps.size ≤ sizeLine then some (.lst (signs x)) else none
  | ds => listD hc ds
section
variable {X : Cx} {g : Gx} {W : WX} {k : Nat}
theorem call_listS (hcalm : X.calm = true) : CallR X (.type "list") (fun xs H Q => ∃ x : Str, xs = [.str x] ∧ x.cps.size ≤ sizeLine ∧ ∀ p, H p = none → Q (.ref p) (upd H p (.lst (x.cps.toList.map fun c => V.str ⟨#[c]⟩)))) := by
  intro pins s σ H xs us Q I r ⟨x, ex, hz, q⟩
  subst ex
  obtain ⟨u, rfl, t, rfl⟩ := vals1 r
  refine call_list_str (I.ok.hd hcalm) x t (fun h' tk acc' c' kp e it => ?_) hz
  have va : Vals (x.cps.toList.map fun c => V.str ⟨#[c]⟩) acc'.toList := vals_signs _ _ (by rw [Array.length_toList, Array.length_toList]; exact it.1) fun j v ev => by
    obtain ⟨c, u, h1, h2⟩ := it.2 j v (by rw [← Array.getElem?_toList]; exact ev)
    exact ⟨c, u, by rw [Array.getElem?_toList]; exact h1, h2⟩
  exact ⟨.ref s.heap.objs.size, _, I.laid (t' := tk) kp (Nat.le_refl _) (show ObjOk X.prog X.w _ h' _ (.lst _) from ⟨by rw [List.length_map, Array.length_toList]; exact hz, acc'.toList, c', va, by rw [Array.toArray_toList]; exact e⟩), rfl, q _ (I.hok.fresh (Nat.le_refl _))⟩
theorem signs_rel {z : Fz} : ∀ l : List Nat, RelDs g z (l.map fun c => D.str ⟨#[c]⟩) (l.map fun c => V.str ⟨#[c]⟩)
  | [] => .nil
  | _ :: l => .cons (.str _) (signs_rel l)
theorem b_listS (c : Ct X g W k) : CallR X (.type "list") (rA g listS) := by
  intro pins s σ H xs us Q I r ⟨z, hc, ds, rr, st, rd, er, q⟩
  have rest : listS hc ds = listD hc ds → wpAny (model X.prog X.w) X.A (call (.type "list") us) (EP X pins σ Q) X.xe s := fun e => b_list c pins s σ H xs us Q I r ⟨z, hc, ds, rr, st, rd, by rw [← e]; exact er, q⟩
  cases rd with
  | nil => exact rest rfl
  | cons h t => cases t with
    | cons _ _ => cases h <;> exact rest rfl
    | nil => cases h with
      | str x =>
        simp only [listS] at er
        split at er
        · rename_i hz
          cases er
          refine call_listS c.calm pins s σ H _ us Q I r ⟨x, rfl, hz, fun p hp => ?_⟩
          obtain ⟨z2, x2, s2, r2⟩ := st.newLst hp (signs_rel x.cps.toList)
          exact q z2 _ _ x2 s2 r2
        · cases er
      | _ => exact rest rfl
end
end Bo

set_option Elab.async false
set_option linter.all false
set_option maxRecDepth 100000
set_option maxHeartbeats 4000000
set_option autoImplicit false
/-! Bo31: sums of lists, numbered or data. -/
namespace Bo
open PySem PySem.Spec L2
def lstN (hc : Hc) : D → Option (List D)
  | .lst ds => some ds
  | .loc n => (match hc.get n with
    | some (.lst ds) => some ds
    | _ => none)
  | _ => none
theorem StR.rdl {g : Gx} {z : Fz} {H : Hp} {hc : Hc} (st : StR g z H hc) {d : D} {ds : List D} {v : V} (e : lstN hc d = some ds) (r : RelD g z d v) : ∃ a xs, v = .ref a ∧ Rd H a (.lst xs) ∧ RelDs g z ds xs := by
  cases r with
  | lst h q => cases e; exact ⟨_, _, rfl, Rd.mono st.sub h, q⟩
  | @loc n a h =>
    unfold lstN at e
    dsimp only at e
    cases q : hc.get n with
    | none => rw [q] at e; cases e
    | some o =>
      rw [q] at e
      cases o with
      | lst es =>
        cases e
        obtain ⟨b, h1, h2, xs, h3, h4⟩ := st.obj n _ q
        rw [h] at h1; cases h1
        exact ⟨_, _, rfl, .inl h3, h4⟩
      | ins c fs => cases e
      | dct ks es => cases e
  | _ => cases e
/-- list + list, as data -/
def addX (hc : Hc) (d e : D) : Option D := match lstN hc d, lstN hc e with
  | some xs, some ys => if xs.length + ys.length ≤ sizeLine then some (.lst (xs ++ ys)) else none
  | _, _ => none
/-- list + list, a numbered one -/
def nadE (fa fb : Sl → Hc → Res D) : Sl → Hc → Res D := fun sl hc => (fa sl hc).bind fun d hc1 => (fb sl hc1).bind fun e hc2 => match lstN hc2 d, lstN hc2 e with
  | some xs, some ys => if xs.length + ys.length ≤ sizeLine then .ok (.loc hc2.next) (hc2.new (.lst (xs ++ ys))) else .bad
  | _, _ => .bad
def rAdd (g : Gx) : R2 := fun x y H Q => ∃ z hc d e xs ys, StR g z H hc ∧ RelD g z d x ∧ RelD g z e y ∧ lstN hc d = some xs ∧ lstN hc e = some ys ∧ xs.length + ys.length ≤ sizeLine ∧ ∀ (p : Addr) (vs : List V), H p = none → RelDs g z (xs ++ ys) vs → Q (.ref p) (upd H p (.lst vs))
section
variable {X : Cx} {g : Gx} {W : WX} {k : Nat} {a b : Expr} {fa fb : Sl → Hc → Res D} {pos : Pos}
theorem o_addL : OpR X (binaryOp .Add) (rAdd g) := by
  intro pins s σ H x y v u Q I rx ry ⟨z, hc, d, e, xs, ys, st, r1, r2, e1, e2, hl, q⟩
  obtain ⟨a, vs, rfl, h1, q1⟩ := st.rdl e1 r1
  obtain ⟨b, ws, rfl, h2, q2⟩ := st.rdl e2 r2
  cases rx
  cases ry
  obtain ⟨_, its, n, rv, g1⟩ := Rd.lists I h1
  obtain ⟨_, its2, n2, rv2, g2⟩ := Rd.lists I h2
  have hz : vs.length + ws.length ≤ sizeLine := by rw [← q1.length, ← q2.length]; exact hl
  have l1 := rv.length
  have l2 := rv2.length
  refine PySem.P.add_list g1 g2 ?_ (by rw [List.size_toArray, List.size_toArray]; omega)
  have ea : its.toArray ++ its2.toArray = (its ++ its2).toArray := by simp
  rw [ea]
  exact ⟨.ref _, _, I.lnew (t' := s.toks) (rv.append rv2) (by rw [List.length_append]; omega), rfl, q _ _ I.fresh (q1.append q2)⟩
theorem o_addX : OpR X (binaryOp .Add) (rP g addX) := by
  intro pins s σ H x y v u Q I rx ry ⟨z, hc, d, e, r, st, r1, r2, er, q⟩
  unfold addX at er
  cases e1 : lstN hc d with
  | none => rw [e1] at er; cases er
  | some xs => cases e2 : lstN hc e with
    | none => rw [e1, e2] at er; cases er
    | some ys =>
      rw [e1, e2] at er
      dsimp only at er
      split at er
      · rename_i hl
        cases er
        refine o_addL pins s σ H x y v u Q I rx ry ⟨z, hc, d, e, xs, ys, st, r1, r2, e1, e2, hl, fun p vs hp rv => ?_⟩
        obtain ⟨z2, x2, s2, r2⟩ := st.newLst hp rv
        exact q _ _ _ x2 s2 r2
      · cases er
theorem e_addN (ha : PE X a (tI g W fa)) (hb : PE X b (tI g W fb)) : PE X (.BinOp a .Add b pos) (tI g W (nadE fa fb)) := by
  refine pe_imp (pe_op (o_addL (g := g)) ha hb) fun σ H Q ⟨z, sl, hc, hs, st, h⟩ => ?_
  refine tI.mono (OutE.thenE (f := fa) hs st h) fun v1 H1 ⟨z1, d1, hc1, x1, hs1, st1, r1, o1⟩ => ?_
  refine tI.mono (OutE.thenE (f := fb) hs1 st1 o1) fun v2 H2 ⟨z2, d2, hc2, x2, hs2, st2, r2, o2⟩ => ?_
  cases e1 : lstN hc2 d1 with
  | none => rw [e1] at o2; exact o2.elim
  | some xs => cases e2 : lstN hc2 d2 with
    | none => rw [e1, e2] at o2; exact o2.elim
    | some ys =>
      rw [e1, e2] at o2
      by_cases hl : xs.length + ys.length ≤ sizeLine
      · simp only [hl, if_true] at o2
        refine ⟨z2, hc2, d1, d2, xs, ys, st2, r1.mono x2.le, r2, e1, e2, hl, fun p vs hp rv => ?_⟩
        obtain ⟨z3, x3, s3, r3⟩ := st2.newLoc (o := .lst (xs ++ ys)) (u := .lst vs) hp fun z' le _ => ⟨vs, upd_same, rv.mono le⟩
        exact o2 _ _ _ x3 s3 (.loc r3)
      · simp only [hl, if_false] at o2
        exact o2.elim
end
end Bo

set_option Elab.async false
set_option linter.all false
set_option maxRecDepth 100000
set_option maxHeartbeats 4000000
set_option autoImplicit false
/-! The program's names, statements and texts, as tr2.py prints them (the same in k12 and k13), for the plain parts. -/
namespace Rdr
open PySem PySem.Spec PyProof.Rows L2 Bo
def d_is_value : Sl → Hc → RS :=
  seqS (ifS (orT (nT (bT (unE (isiD .str) (vE 0)))) (nT (bT (chE leO leO (cE (.int 1)) (blE lenD (kA (vE 0) (nA))) (cE (.int 8)))))) (retS (cE (.bl false))) (nS))
  (retS (blE allD (kA (lcE [1] (nmG 1) (itE itA (vE 0)) (yT) (opE inO (vE 1) (cE (.str "abcdefghijklmnopqrstuvwxyz")))) (nA))))
def c_is_value : List D → Hc → Res D := fnR 1 2 d_is_value
def d_is_name : Sl → Hc → RS :=
  retS (andE (callE c_is_value (kA (vE 0) (nA))) (opE ninO (vE 0) (cE (.tup ((["select", "distinct", "as", "from", "where", "and", "in"] : List Str).map D.str)))))
def c_is_name : List D → Hc → Res D := fnR 1 1 d_is_name
def d_is_values : Sl → Hc → RS :=
  seqS (ifS (orT (nT (bT (unE (isiD .tup) (vE 0)))) (nT (bT (chE leO leO (cE (.int 1)) (blE lenD (kA (vE 0) (nA))) (cE (.int 8)))))) (retS (cE (.bl false))) (nS))
  (retS (andE (blE allD (kA (lcE [1] (nmG 1) (itE itA (vE 0)) (yT) (callE c_is_value (kA (vE 1) (nA)))) (nA))) (opE eqO (blE listD (kA (vE 0) (nA))) (blE sortSetD (kA (vE 0) (nA))))))
def c_is_values : List D → Hc → Res D := fnR 1 2 d_is_values
def d_is_column_form : Sl → Hc → RS :=
  seqS (ifS (orT (nT (bT (unE (isiD .tup) (vE 0)))) (bT (opE neO (blE lenD (kA (vE 0) (nA))) (cE (.int 2))))) (retS (cE (.bl false))) (nS))
  (retS (andE (orE (opE isO (opE ixD (vE 0) (cE (.int 0))) (cE .non)) (callE c_is_name (kA (opE ixD (vE 0) (cE (.int 0))) (nA)))) (callE c_is_name (kA (opE ixD (vE 0) (cE (.int 1))) (nA)))))
def c_is_column_form : List D → Hc → Res D := fnR 1 1 d_is_column_form
def d_is_call_form (self : List D → Hc → Res D) : Sl → Hc → RS :=
  seqS (ifS (orT (nT (bT (unE (isiD .tup) (vE 0)))) (orT (bT (opE neO (blE lenD (kA (vE 0) (nA))) (cE (.int 4)))) (orT (bT (opE eqO (vE 1) (cE (.int 0)))) (nT (bT (unE (isiD .str) (opE ixD (vE 0) (cE (.int 0))))))))) (retS (cE (.bl false))) (nS))
  (seqS (asG (tupH 4 (consG (nmG 2) (consG (nmG 3) (consG (nmG 4) (consG (nmG 5) (nilG)))))) (vE 0))
  (seqS (ifS (orT (bT (opE neO (vE 2) (cE (.str "call")))) (orT (nT (orT (bT (opE isO (vE 3) (cE .non))) (bT (callE c_is_name (kA (vE 3) (nA)))))) (nT (bT (callE c_is_name (kA (vE 4) (nA))))))) (retS (cE (.bl false))) (nS))
  (seqS (ifS (orT (nT (bT (unE (isiD .tup) (vE 5)))) (nT (bT (chE leO leO (cE (.int 1)) (blE lenD (kA (vE 5) (nA))) (cE (.int 2)))))) (retS (cE (.bl false))) (nS))
  (retS (blE allD (kA (lcE [6] (nmG 6) (itE itA (vE 5)) (yT) (orE (callE c_is_column_form (kA (vE 6) (nA))) (orE (callE c_is_value (kA (vE 6) (nA))) (callE self (kA (vE 6) (kA (opE subD (vE 1) (cE (.int 1))) (nA))))))) (nA)))))))
def c_is_call_form : Nat → List D → Hc → Res D
  | 0 => badC
  | n + 1 => fnR 2 7 (d_is_call_form (c_is_call_form n))
def d_is_told : Sl → Hc → RS :=
  seqS (matS (vE 0) (caseC (seqP 2 (consP (valP "star") (consP (capP 1) (nilP)))) yT (retS (andE (unE (isiD .tup) (vE 0)) (callE c_is_name (kA (vE 1) (nA))))) (caseC (seqP 3 (consP (valP "column") (consP (capP 2) (consP (capP 3) (nilP))))) yT (retS (andE (unE (isiD .tup) (vE 0)) (andE (callE c_is_column_form (kA (vE 2) (nA))) (callE c_is_name (kA (vE 3) (nA)))))) (caseC (seqP 3 (consP (valP "term") (consP (capP 4) (consP (capP 3) (nilP))))) yT (retS (andE (unE (isiD .tup) (vE 0)) (andE (orE (callE c_is_value (kA (vE 4) (nA))) (callE (c_is_call_form 20) (kA (vE 4) (kA (cE (.int 3)) (nA))))) (callE c_is_name (kA (vE 3) (nA)))))) (endC)))))
  (retS (cE (.bl false)))
def c_is_told : List D → Hc → Res D := fnR 1 5 d_is_told
def d_is_source : Sl → Hc → RS :=
  seqS (ifS (orT (nT (bT (unE (isiD .tup) (vE 0)))) (orT (bT (opE neO (blE lenD (kA (vE 0) (nA))) (cE (.int 3)))) (nT (orT (bT (opE isO (opE ixD (vE 0) (cE (.int 0))) (cE .non))) (bT (callE c_is_name (kA (opE ixD (vE 0) (cE (.int 0))) (nA)))))))) (retS (cE (.bl false))) (nS))
  (retS (andE (callE c_is_name (kA (opE ixD (vE 0) (cE (.int 1))) (nA))) (callE c_is_name (kA (opE ixD (vE 0) (cE (.int 2))) (nA)))))
def c_is_source : List D → Hc → Res D := fnR 1 1 d_is_source
def d_is_condition : Sl → Hc → RS :=
  seqS (matS (vE 0) (caseC (seqP 3 (consP (valP "equal") (consP (capP 1) (consP (capP 2) (nilP))))) yT (retS (andE (unE (isiD .tup) (vE 0)) (andE (callE c_is_column_form (kA (vE 1) (nA))) (callE c_is_column_form (kA (vE 2) (nA)))))) (caseC (seqP 3 (consP (valP "in") (consP (capP 1) (consP (capP 3) (nilP))))) yT (retS (andE (unE (isiD .tup) (vE 0)) (andE (callE c_is_column_form (kA (vE 1) (nA))) (callE c_is_values (kA (vE 3) (nA)))))) (endC))))
  (retS (cE (.bl false)))
def c_is_condition : List D → Hc → Res D := fnR 1 4 d_is_condition
def dsp_1 : Nat → Option (List D → Hc → Res D)
  | 3 => some c_is_condition
  | 4 => some c_is_told
  | 5 => some c_is_source
  | _ => none
def d_is_row_of : Sl → Hc → RS :=
  retS (andE (unE (isiD .tup) (vE 0)) (andE (chE leO leO (vE 1) (blE lenD (kA (vE 0) (nA))) (vE 2)) (blE allD (kA (lcE [4] (nmG 4) (itE itA (vE 0)) (yT) (clE 3 dsp_1 (kA (vE 4) (nA)))) (nA)))))
def c_is_row_of : List D → Hc → Res D := fnR 4 5 d_is_row_of
def d_is_statement : Sl → Hc → RS :=
  seqS (ifS (orT (nT (bT (unE (isiD .tup) (vE 0)))) (orT (bT (opE neO (blE lenD (kA (vE 0) (nA))) (cE (.int 4)))) (nT (bT (unE (isiD .bl) (opE ixD (vE 0) (cE (.int 0)))))))) (retS (cE (.bl false))) (nS))
  (seqS (ifS (orT (nT (bT (callE c_is_row_of (kA (opE ixD (vE 0) (cE (.int 1))) (kA (cE (.int 1)) (kA (cE (.int 8)) (kA (cE (.fn 4)) (nA)))))))) (nT (bT (callE c_is_row_of (kA (opE ixD (vE 0) (cE (.int 2))) (kA (cE (.int 1)) (kA (cE (.int 4)) (kA (cE (.fn 5)) (nA))))))))) (retS (cE (.bl false))) (nS))
  (seqS (ifS (bT (opE ltO (blE lenX (kA (dcE [1] (nmG 1) (itE itA (opE ixD (vE 0) (cE (.int 2)))) (yT) (opE ixD (vE 1) (cE (.int 2))) (cE (.bl true))) (nA))) (blE lenD (kA (opE ixD (vE 0) (cE (.int 2))) (nA))))) (retS (cE (.bl false))) (nS))
  (retS (callE c_is_row_of (kA (opE ixD (vE 0) (cE (.int 3))) (kA (cE (.int 0)) (kA (cE (.int 8)) (kA (cE (.fn 3)) (nA)))))))))
def c_is_statement : List D → Hc → Res D := fnR 1 2 d_is_statement
def d_write_column : Sl → Hc → RS :=
  retS (ifE (bT (opE isO (opE ixD (vE 0) (cE (.int 0))) (cE .non))) (opE ixD (vE 0) (cE (.int 1))) (fsE [unE fmtD (opE ixD (vE 0) (cE (.int 0))), cE (.str "."), unE fmtD (opE ixD (vE 0) (cE (.int 1)))]))
def c_write_column : List D → Hc → Res D := fnR 1 1 d_write_column
def d_write_term (self : List D → Hc → Res D) : Sl → Hc → RS :=
  seqS (ifS (bT (unE (isiD .str) (vE 0))) (retS (fsE [cE (.str "'"), unE fmtD (vE 0), cE (.str "'")])) (nS))
  (seqS (ifS (bT (opE eqO (blE lenD (kA (vE 0) (nA))) (cE (.int 2)))) (retS (callE c_write_column (kA (vE 0) (nA)))) (nS))
  (seqS (asgS 1 (joinE (cE (.str ", ")) (lcE [2] (nmG 2) (itE itA (opE ixD (vE 0) (cE (.int 3)))) (yT) (callE self (kA (vE 2) (nA))))))
  (retS (fsE [unE fmtD (callE c_write_column (kA (slE (vE 0) (sO (cE (.int 1))) (sO (cE (.int 3)))) (nA))), cE (.str "("), unE fmtD (vE 1), cE (.str ")")]))))
def c_write_term : Nat → List D → Hc → Res D
  | 0 => badC
  | n + 1 => fnR 1 3 (d_write_term (c_write_term n))
def d_write_told : Sl → Hc → RS :=
  seqS (matS (vE 0) (caseC (seqP 2 (consP (valP "star") (consP (capP 1) (nilP)))) yT (retS (fsE [unE fmtD (vE 1), cE (.str ".*")])) (caseC (seqP 3 (consP (valP "column") (consP (seqP 2 (consP (capP 1) (consP (capP 2) (nilP)))) (consP (capP 3) (nilP))))) (bT (opE eqO (vE 2) (vE 3))) (retS (callE c_write_column (kA (tupE (kA (vE 1) (kA (vE 2) (nA)))) (nA)))) (endC))))
  (retS (fsE [unE fmtD (callE (c_write_term 20) (kA (opE ixD (vE 0) (cE (.int 1))) (nA))), cE (.str " as "), unE fmtD (opE ixD (vE 0) (cE (.int 2)))]))
def c_write_told : List D → Hc → Res D := fnR 1 4 d_write_told
def d_write_source : Sl → Hc → RS :=
  seqS (asgS 1 (callE c_write_column (kA (slE (vE 0) nO (sO (cE (.int 2)))) (nA))))
  (retS (ifE (bT (opE eqO (opE ixD (vE 0) (cE (.int 1))) (opE ixD (vE 0) (cE (.int 2))))) (vE 1) (fsE [unE fmtD (vE 1), cE (.str " "), unE fmtD (opE ixD (vE 0) (cE (.int 2)))])))
def c_write_source : List D → Hc → Res D := fnR 1 2 d_write_source
def d_write_values : Sl → Hc → RS :=
  seqS (asgS 1 (joinE (cE (.str ", ")) (lcE [2] (nmG 2) (itE itA (vE 0)) (yT) (fsE [cE (.str "'"), unE fmtD (vE 2), cE (.str "'")]))))
  (retS (fsE [cE (.str "("), unE fmtD (vE 1), cE (.str ")")]))
def c_write_values : List D → Hc → Res D := fnR 1 3 d_write_values
def d_write_condition : Sl → Hc → RS :=
  seqS (ifS (bT (opE eqO (opE ixD (vE 0) (cE (.int 0))) (cE (.str "equal")))) (retS (fsE [unE fmtD (callE c_write_column (kA (opE ixD (vE 0) (cE (.int 1))) (nA))), cE (.str " = "), unE fmtD (callE c_write_column (kA (opE ixD (vE 0) (cE (.int 2))) (nA)))])) (nS))
  (retS (fsE [unE fmtD (callE c_write_column (kA (opE ixD (vE 0) (cE (.int 1))) (nA))), cE (.str " in "), unE fmtD (callE c_write_values (kA (opE ixD (vE 0) (cE (.int 2))) (nA)))]))
def c_write_condition : List D → Hc → Res D := fnR 1 1 d_write_condition
def d_write : Sl → Hc → RS :=
  seqS (asG (tupH 4 (consG (nmG 1) (consG (nmG 2) (consG (nmG 3) (consG (nmG 4) (nilG)))))) (vE 0))
  (seqS (asgS 5 (ifE (bT (vE 1)) (cE (.str "select distinct ")) (cE (.str "select "))))
  (seqS (asgS 5 (opE addD (vE 5) (joinE (cE (.str ", ")) (lcE [6] (nmG 6) (itE itA (vE 2)) (yT) (callE c_write_told (kA (vE 6) (nA)))))))
  (seqS (asgS 5 (opE addD (opE addD (vE 5) (cE (.str " from "))) (joinE (cE (.str ", ")) (lcE [6] (nmG 6) (itE itA (vE 3)) (yT) (callE c_write_source (kA (vE 6) (nA)))))))
  (retS (opE addD (opE addD (vE 5) (ifE (bT (opE neO (vE 4) (tupE (nA)))) (cE (.str " where ")) (cE (.str "")))) (joinE (cE (.str " and ")) (lcE [6] (nmG 6) (itE itA (vE 4)) (yT) (callE c_write_condition (kA (vE 6) (nA))))))))))
def c_write : List D → Hc → Res D := fnR 1 7 d_write
def d_is_letter : Sl → Hc → RS :=
  retS (chE leO leO (cE (.str "a")) (vE 0) (cE (.str "z")))
def c_is_letter : List D → Hc → Res D := fnR 1 1 d_is_letter
def d_words_in : Sl → Hc → RS :=
  seqS (asG (tupG 2 (consG (nmG 1) (consG (nmG 2) (nilG)))) (tupE (kA (newE (nA)) (kA (cE (.int 0)) (nA)))))
  (seqS (whileS (bT (opE ltO (vE 2) (blE lenD (kA (vE 0) (nA))))) (seqS (asgS 3 (opE addD (vE 2) (cE (.int 1))))
    (seqS (ifS (bT (callE c_is_letter (kA (opE ixD (vE 0) (vE 2)) (nA)))) (whileS (andT (bT (opE ltO (vE 3) (blE lenD (kA (vE 0) (nA))))) (bT (callE c_is_letter (kA (opE ixD (vE 0) (vE 3)) (nA))))) (augS 3 (fun a b => a + b) (cE (.int 1))) 20000) (ifS (bT (opE eqO (opE ixD (vE 0) (vE 2)) (cE (.str "'")))) (seqS (whileS (andT (bT (opE ltO (vE 3) (blE lenD (kA (vE 0) (nA))))) (bT (callE c_is_letter (kA (opE ixD (vE 0) (vE 3)) (nA))))) (augS 3 (fun a b => a + b) (cE (.int 1))) 20000)
        (augS 3 (fun a b => a + b) (cE (.int 1)))) (nS)))
    (seqS (exS (mtE appD (vE 1) (kA (slE (vE 0) (sO (vE 2)) (sO (vE 3))) (nA))))
    (asgS 2 (vE 3))))) 20000)
  (retS (frzE (vE 1))))
def c_words_in : List D → Hc → Res D := fnR 1 4 d_words_in
def d_Reader____init__ : Sl → Hc → RS :=
  seqS (ifS (nT (bT (unE (isiD .str) (vE 1)))) (raiS 1 (cE (.str "an object is no text of a statement"))) (nS))
  (seqS (fldS 2 "words" (vE 0) (callE c_words_in (kA (vE 1) (nA))))
  (fldS 2 "place" (vE 0) (cE (.int 0))))
def c_Reader____init__ : List D → Hc → Res D := fnR 2 2 d_Reader____init__
def d_Reader__next_word : Sl → Hc → RS :=
  retS (ifE (bT (opE ltO (unE (fldD 2 "place") (vE 0)) (blE lenD (kA (unE (fldD 2 "words") (vE 0)) (nA))))) (opE ixD (unE (fldD 2 "words") (vE 0)) (unE (fldD 2 "place") (vE 0))) (cE (.str "")))
def c_Reader__next_word : List D → Hc → Res D := fnR 1 1 d_Reader__next_word
def d_Reader__take : Sl → Hc → RS :=
  seqS (asgS 1 (mthE 2 "next_word" c_Reader__next_word (vE 0) nA))
  (seqS (fldA 2 "place" (fun a b => a + b) (vE 0) (cE (.int 1)))
  (retS (vE 1)))
def c_Reader__take : List D → Hc → Res D := fnR 1 2 d_Reader__take
def d_Reader__skip : Sl → Hc → RS :=
  forS (nmG 2) (itE itA (vE 1)) (ifS (bT (opE neO (mthE 2 "take" c_Reader__take (vE 0) nA) (vE 2))) (raiS 1 (cE (.str "an object is no text of a statement"))) (nS))
def c_Reader__skip : List D → Hc → Res D := fnStar 1 3 d_Reader__skip
def d_Reader__comes : Sl → Hc → RS :=
  seqS (asgS 2 (blE lenD (kA (vE 1) (nA))))
  (seqS (ifS (bT (opE neO (slE (unE (fldD 2 "words") (vE 0)) (sO (unE (fldD 2 "place") (vE 0))) (sO (opE addD (unE (fldD 2 "place") (vE 0)) (vE 2)))) (blE listD (kA (vE 1) (nA))))) (retS (cE (.bl false))) (nS))
  (seqS (fldA 2 "place" (fun a b => a + b) (vE 0) (vE 2))
  (retS (cE (.bl true)))))
def c_Reader__comes : List D → Hc → Res D := fnStar 1 3 d_Reader__comes
def d_Reader__take_name : Sl → Hc → RS :=
  seqS (asgS 1 (mthE 2 "take" c_Reader__take (vE 0) nA))
  (seqS (ifS (nT (bT (callE c_is_name (kA (vE 1) (nA))))) (raiS 1 (cE (.str "an object is no text of a statement"))) (nS))
  (retS (vE 1)))
def c_Reader__take_name : List D → Hc → Res D := fnR 1 2 d_Reader__take_name
def d_Reader__take_value : Sl → Hc → RS :=
  seqS (asgS 1 (mthE 2 "take" c_Reader__take (vE 0) nA))
  (seqS (ifS (orT (bT (opE ltO (blE lenD (kA (vE 1) (nA))) (cE (.int 3)))) (orT (bT (opE neO (opE ixD (vE 1) (cE (.int 0))) (cE (.str "'")))) (bT (opE neO (opE ixD (vE 1) (unE negD (cE (.int 1)))) (cE (.str "'")))))) (raiS 1 (cE (.str "an object is no text of a statement"))) (nS))
  (retS (slE (vE 1) (sO (cE (.int 1))) (sO (unE negD (cE (.int 1)))))))
def c_Reader__take_value : List D → Hc → Res D := fnR 1 2 d_Reader__take_value
def d_Reader__take_column : Sl → Hc → RS :=
  seqS (asgS 1 (mthE 2 "take_name" c_Reader__take_name (vE 0) nA))
  (retS (ifE (bT (mthE 2 "comes" c_Reader__comes (vE 0) (kA (cE (.str ".")) (nA)))) (tupE (kA (vE 1) (kA (mthE 2 "take_name" c_Reader__take_name (vE 0) nA) (nA)))) (tupE (kA (cE .non) (kA (vE 1) (nA))))))
def c_Reader__take_column : List D → Hc → Res D := fnR 1 2 d_Reader__take_column
def d_Reader__is_label : Sl → Hc → RS :=
  seqS (ifS (bT (opE eqO (slE (unE (fldD 2 "words") (vE 0)) (sO (opE addD (unE (fldD 2 "place") (vE 0)) (cE (.int 1)))) (sO (opE addD (unE (fldD 2 "place") (vE 0)) (cE (.int 2))))) (lstE (kA (cE (.str "where")) (nA))))) (retS (cE (.bl false))) (nS))
  (seqS (exS (mthE 2 "skip" c_Reader__skip (vE 0) (kA (cE (.str " ")) (nA))))
  (retS (cE (.bl true))))
def c_Reader__is_label : List D → Hc → Res D := fnR 1 1 d_Reader__is_label
def d_Reader__take_source : Sl → Hc → RS :=
  seqS (asgS 1 (mthE 2 "take_column" c_Reader__take_column (vE 0) nA))
  (seqS (asgS 2 (ifE (andT (bT (opE eqO (mthE 2 "next_word" c_Reader__next_word (vE 0) nA) (cE (.str " ")))) (bT (mthE 2 "is_label" c_Reader__is_label (vE 0) nA))) (mthE 2 "take_name" c_Reader__take_name (vE 0) nA) (opE ixD (vE 1) (cE (.int 1)))))
  (retS (tupE (sA (vE 1) (kA (vE 2) (nA))))))
def c_Reader__take_source : List D → Hc → Res D := fnR 1 3 d_Reader__take_source
def d_Reader__take_part (self : Nat → List D → Hc → Res D) : Sl → Hc → RS :=
  seqS (ifS (bT (opE eqO (vE 1) (cE (.str "name")))) (retS (mthE 2 "take_name" c_Reader__take_name (vE 0) nA)) (nS))
  (seqS (ifS (bT (opE eqO (vE 1) (cE (.str "value")))) (retS (mthE 2 "take_value" c_Reader__take_value (vE 0) nA)) (nS))
  (seqS (ifS (bT (opE eqO (vE 1) (cE (.str "told")))) (retS (mthE 2 "take_told" (self 3) (vE 0) nA)) (nS))
  (retS (ifE (bT (opE eqO (vE 1) (cE (.str "source")))) (mthE 2 "take_source" c_Reader__take_source (vE 0) nA) (mthE 2 "take_term" (self 2) (vE 0) (kA (vE 1) (nA)))))))
def d_Reader__take_parts (self : Nat → List D → Hc → Res D) : Sl → Hc → RS :=
  seqS (asgS 2 (newE (kA (mthE 2 "take_part" (self 0) (vE 0) (kA (vE 1) (nA))) (nA))))
  (seqS (whileS (bT (mthE 2 "comes" c_Reader__comes (vE 0) (kA (cE (.str ",")) (kA (cE (.str " ")) (nA))))) (exS (mtE appD (vE 2) (kA (mthE 2 "take_part" (self 0) (vE 0) (kA (vE 1) (nA))) (nA)))) 20000)
  (retS (blE tupleD (kA (vE 2) (nA)))))
def d_Reader__take_term (self : Nat → List D → Hc → Res D) : Sl → Hc → RS :=
  seqS (ifS (bT (opE eqO (slE (mthE 2 "next_word" c_Reader__next_word (vE 0) nA) nO (sO (cE (.int 1)))) (cE (.str "'")))) (retS (mthE 2 "take_value" c_Reader__take_value (vE 0) nA)) (nS))
  (seqS (asgS 2 (mthE 2 "take_column" c_Reader__take_column (vE 0) nA))
  (seqS (ifS (orT (bT (opE eqO (vE 1) (cE (.int 0)))) (nT (bT (mthE 2 "comes" c_Reader__comes (vE 0) (kA (cE (.str "(")) (nA)))))) (retS (vE 2)) (nS))
  (seqS (asgS 3 (mthE 2 "take_parts" (self 1) (vE 0) (kA (opE subD (vE 1) (cE (.int 1))) (nA))))
  (seqS (exS (mthE 2 "skip" c_Reader__skip (vE 0) (kA (cE (.str ")")) (nA))))
  (retS (tupE (kA (cE (.str "call")) (sA (vE 2) (kA (vE 3) (nA))))))))))
def d_Reader__take_told (self : Nat → List D → Hc → Res D) : Sl → Hc → RS :=
  seqS (ifS (bT (opE eqO (slE (unE (fldD 2 "words") (vE 0)) (sO (opE addD (unE (fldD 2 "place") (vE 0)) (cE (.int 1)))) (sO (opE addD (unE (fldD 2 "place") (vE 0)) (cE (.int 3))))) (lstE (kA (cE (.str ".")) (kA (cE (.str "*")) (nA)))))) (seqS (asgS 1 (mthE 2 "take_name" c_Reader__take_name (vE 0) nA))
    (seqS (exS (mthE 2 "skip" c_Reader__skip (vE 0) (kA (cE (.str ".")) (kA (cE (.str "*")) (nA)))))
    (retS (tupE (kA (cE (.str "star")) (kA (vE 1) (nA))))))) (nS))
  (seqS (asgS 2 (mthE 2 "take_term" (self 2) (vE 0) (kA (cE (.int 3)) (nA))))
  (seqS (asgS 3 (andE (unE (isiD .tup) (vE 2)) (opE eqO (blE lenD (kA (vE 2) (nA))) (cE (.int 2)))))
  (seqS (ifS (andT (bT (vE 3)) (nT (bT (mthE 2 "comes" c_Reader__comes (vE 0) (kA (cE (.str " ")) (kA (cE (.str "as")) (kA (cE (.str " ")) (nA)))))))) (retS (tupE (kA (cE (.str "column")) (kA (vE 2) (kA (opE ixD (vE 2) (cE (.int 1))) (nA)))))) (nS))
  (seqS (ifS (nT (bT (vE 3))) (exS (mthE 2 "skip" c_Reader__skip (vE 0) (kA (cE (.str " ")) (kA (cE (.str "as")) (kA (cE (.str " ")) (nA)))))) (nS))
  (retS (tupE (kA (ifE (bT (vE 3)) (cE (.str "column")) (cE (.str "term"))) (kA (vE 2) (kA (mthE 2 "take_name" c_Reader__take_name (vE 0) nA) (nA))))))))))
def c_G2 : Nat → Nat → List D → Hc → Res D
  | 0, _ => badC
  | n + 1, 0 => fnR 2 2 (d_Reader__take_part (c_G2 n))
  | n + 1, 1 => fnR 2 3 (d_Reader__take_parts (c_G2 n))
  | n + 1, 2 => fnR 2 4 (d_Reader__take_term (c_G2 n))
  | n + 1, 3 => fnR 1 4 (d_Reader__take_told (c_G2 n))
  | _ + 1, _ => badC
def d_Reader__take_values : Sl → Hc → RS :=
  seqS (exS (mthE 2 "skip" c_Reader__skip (vE 0) (kA (cE (.str "(")) (nA))))
  (seqS (asgS 1 (mthE 2 "take_parts" (c_G2 20 1) (vE 0) (kA (cE (.str "value")) (nA))))
  (seqS (exS (mthE 2 "skip" c_Reader__skip (vE 0) (kA (cE (.str ")")) (nA))))
  (retS (vE 1))))
def c_Reader__take_values : List D → Hc → Res D := fnR 1 2 d_Reader__take_values
def d_Reader__take_condition : Sl → Hc → RS :=
  seqS (asgS 1 (mthE 2 "take_column" c_Reader__take_column (vE 0) nA))
  (seqS (exS (mthE 2 "skip" c_Reader__skip (vE 0) (kA (cE (.str " ")) (nA))))
  (seqS (ifS (bT (mthE 2 "comes" c_Reader__comes (vE 0) (kA (cE (.str "=")) (kA (cE (.str " ")) (nA))))) (retS (tupE (kA (cE (.str "equal")) (kA (vE 1) (kA (mthE 2 "take_column" c_Reader__take_column (vE 0) nA) (nA)))))) (nS))
  (seqS (exS (mthE 2 "skip" c_Reader__skip (vE 0) (kA (cE (.str "in")) (kA (cE (.str " ")) (nA)))))
  (retS (tupE (kA (cE (.str "in")) (kA (vE 1) (kA (mthE 2 "take_values" c_Reader__take_values (vE 0) nA) (nA)))))))))
def c_Reader__take_condition : List D → Hc → Res D := fnR 1 2 d_Reader__take_condition
def d_Reader__take_statement : Sl → Hc → RS :=
  seqS (exS (mthE 2 "skip" c_Reader__skip (vE 0) (kA (cE (.str "select")) (kA (cE (.str " ")) (nA)))))
  (seqS (asgS 1 (mthE 2 "comes" c_Reader__comes (vE 0) (kA (cE (.str "distinct")) (kA (cE (.str " ")) (nA)))))
  (seqS (asgS 2 (mthE 2 "take_parts" (c_G2 20 1) (vE 0) (kA (cE (.str "told")) (nA))))
  (seqS (exS (mthE 2 "skip" c_Reader__skip (vE 0) (kA (cE (.str " ")) (kA (cE (.str "from")) (kA (cE (.str " ")) (nA))))))
  (seqS (asG (tupG 2 (consG (nmG 3) (consG (nmG 4) (nilG)))) (tupE (kA (mthE 2 "take_parts" (c_G2 20 1) (vE 0) (kA (cE (.str "source")) (nA))) (kA (newE (nA)) (nA)))))
  (seqS (ifS (bT (mthE 2 "comes" c_Reader__comes (vE 0) (kA (cE (.str " ")) (kA (cE (.str "where")) (kA (cE (.str " ")) (nA)))))) (seqS (exS (mtE appD (vE 4) (kA (mthE 2 "take_condition" c_Reader__take_condition (vE 0) nA) (nA))))
    (whileS (bT (mthE 2 "comes" c_Reader__comes (vE 0) (kA (cE (.str " ")) (kA (cE (.str "and")) (kA (cE (.str " ")) (nA)))))) (exS (mtE appD (vE 4) (kA (mthE 2 "take_condition" c_Reader__take_condition (vE 0) nA) (nA)))) 20000)) (nS))
  (retS (tupE (kA (vE 1) (kA (vE 2) (kA (vE 3) (kA (blE tupleD (kA (vE 4) (nA))) (nA))))))))))))
def c_Reader__take_statement : List D → Hc → Res D := fnR 1 5 d_Reader__take_statement
def d_Reader__finish : Sl → Hc → RS :=
  ifS (bT (opE neO (unE (fldD 2 "place") (vE 0)) (blE lenD (kA (unE (fldD 2 "words") (vE 0)) (nA))))) (raiS 1 (cE (.str "an object is no text of a statement"))) (nS)
def c_Reader__finish : List D → Hc → Res D := fnR 1 1 d_Reader__finish
def d_read : Sl → Hc → RS :=
  seqS (asgS 1 (makE 2 c_Reader____init__ (kA (vE 0) (nA))))
  (seqS (asgS 2 (mthE 2 "take_statement" c_Reader__take_statement (vE 1) nA))
  (seqS (exS (mthE 2 "finish" c_Reader__finish (vE 1) nA))
  (seqS (ifS (orT (nT (bT (callE c_is_statement (kA (vE 2) (nA))))) (bT (opE neO (callE c_write (kA (vE 2) (nA))) (vE 0)))) (raiS 1 (cE (.str "an object is no text of a statement"))) (nS))
  (retS (vE 2)))))
def c_read : List D → Hc → Res D := fnR 1 3 d_read
end Rdr

set_option Elab.async false
set_option linter.all false
set_option maxRecDepth 100000
set_option maxHeartbeats 4000000
set_option autoImplicit false
/-! The reader: its state, next_word, take, skip, comes. -/
namespace Rdr
open PySem PySem.Spec PyProof.Rows L2 Bo
def rdO (ws : List Str) (p : Nat) : Ob := .ins 2 [("words", .lst (ws.map D.str)), ("place", .int (p : Int))]
/-- the reader r stands at p -/
def At (r : Nat) (ws : List Str) (p : Nat) (h : Hc) : Prop := h.get r = some (rdO ws p)
/-- what reading does to the rest -/
structure Mv (r : Nat) (h h' : Hc) : Prop where
  nx : h.next ≤ h'.next
  keep : ∀ q, q < h.next → q ≠ r → h'.get q = h.get q
  fil : h'.m.filter (fun p => decide (p.1 < r)) = h.m.filter (fun p => decide (p.1 < r))
theorem Mv.refl {r : Nat} (h : Hc) : Mv r h h := ⟨Nat.le_refl _, fun _ _ _ => rfl, rfl⟩
theorem Mv.trans {r : Nat} {a b c : Hc} (x : Mv r a b) (y : Mv r b c) : Mv r a c := ⟨Nat.le_trans x.nx y.nx, fun q h1 h2 => (y.keep q (Nat.lt_of_lt_of_le h1 x.nx) h2).trans (x.keep q h1 h2), y.fil.trans x.fil⟩
theorem setM_fil {r k : Nat} {o : Ob} (h : r ≤ k) : ∀ m : List (Nat × Ob), (setM k o m).filter (fun p => decide (p.1 < r)) = m.filter (fun p => decide (p.1 < r))
  | [] => rfl
  | (a, b) :: m => by
    unfold setM
    by_cases e : a = k
    · subst e
      have : decide (a < r) = false := decide_eq_false (by omega)
      simp only [if_true, List.filter_cons, this]
      rfl
    · rw [if_neg e]
      simp only [List.filter_cons, setM_fil h m]
theorem mv_set {r : Nat} {h : Hc} {o : Ob} : Mv r h (h.set r o) := ⟨Nat.le_refl _, fun q _ h2 => get_set_ne h2, setM_fil (Nat.le_refl _) _⟩
theorem mv_setl {r l : Nat} {h h1 : Hc} {o : Ob} (x : Mv r h h1) (hl : h.next ≤ l) (hr : r < l) : Mv r h (h1.set l o) := ⟨x.nx, fun q h1' h2 => (get_set_ne (by omega)).trans (x.keep q h1' h2), (setM_fil (Nat.le_of_lt hr) _).trans x.fil⟩
theorem mv_new {r : Nat} {h : Hc} {o : Ob} (hr : r < h.next) : Mv r h (h.new o) := by
  refine ⟨Nat.le_succ _, fun q h1 _ => by rw [Hc.get_new, if_neg (by omega)], ?_⟩
  have : decide (h.next < r) = false := decide_eq_false (by omega)
  show ((h.next, o) :: h.m).filter _ = _
  simp only [List.filter_cons, this]
  rfl
theorem at_set {r p q : Nat} {ws : List Str} {h : Hc} (a : At r ws p h) : At r ws q (h.set r (rdO ws q)) := get_set_self a
/-- how reading ends -/
def Ends (r : Nat) (ws : List Str) (h : Hc) (res : Res D) : Option (D × Nat) → Prop
  | some (v, p) => ∃ h', res = .ok v h' ∧ At r ws p h' ∧ Mv r h h'
  | none => ∃ h' p, res = .exc 1 h' ∧ At r ws p h' ∧ Mv r h h'
section
variable {r p : Nat} {ws : List Str} {h : Hc}
theorem f_words (a : At r ws p h) : fldD 2 "words" h (.loc r) = some (.lst (ws.map D.str)) := by
  have a' : h.get r = _ := a
  simp only [fldD, a', rdO, if_true]
  rfl
theorem f_place (a : At r ws p h) : fldD 2 "place" h (.loc r) = some (.int (p : Int)) := by
  have a' : h.get r = _ := a
  simp only [fldD, a', rdO, if_true]
  rfl
theorem p_place {q : Nat} (a : At r ws p h) : putFld 2 "place" h (.loc r) (.int (q : Int)) = some (h.set r (rdO ws q)) := by
  have a' : h.get r = _ := a
  have e : putFD "place" (.int (q : Int)) ([("words", .lst (ws.map D.str)), ("place", .int (p : Int))] : List (Str × D)) = ([("words", .lst (ws.map D.str)), ("place", .int (q : Int))] : List (Str × D)) := rfl
  simp only [putFld, a', rdO, List.length_cons, List.length_nil, e]
  rw [if_pos ⟨trivial, by omega⟩]
def nw (ws : List Str) (p : Nat) : Str := (ws[p]?).getD ""
theorem mth {m : Str} {cl : List D → Hc → Res D} {fs : Sl → Hc → Res (List D)} {sl : Sl} {ds : List D} (a : At r ws p h) (e0 : sl[0]? = some (some (.loc r))) (hm : ([("words", .lst (ws.map D.str)), ("place", .int (p : Int))] : List (Str × D)).lookup m = none) (e : fs sl h = .ok ds h) : mthE 2 m cl (vE 0) fs sl h = cl (.loc r :: ds) h := by
  have a' : h.get r = _ := a
  unfold mthE
  rw [vO e0]
  simp only [Res.bind, mthR, a', rdO, hm, and_self, if_true, e]
theorem next_word (a : At r ws p h) : c_Reader__next_word [.loc r] h = .ok (.str (nw ws p)) h := by
  have t1 : opE ltO (unE (fldD 2 "place") (vE 0)) (blE lenD (kA (unE (fldD 2 "words") (vE 0)) (nA))) [some (.loc r)] h = .ok (.bl (decide ((p : Int) < (ws.length : Int)))) h := by
    refine opO (a := .int (p : Int)) (b := .int (ws.length : Int)) (unO rfl (f_place a)) (blO (k1 (unO rfl (f_words a))) ?_) rfl
    show some (D.int ((ws.map D.str).length : Int)) = _
    rw [List.length_map]
  by_cases q : p < ws.length
  · have e : (p : Int) < (ws.length : Int) := by omega
    rw [decide_eq_true e] at t1
    have at_ : atI (ws.map D.str) (p : Int) = some (.str (nw ws p)) := by
      have e1 : ixN (ws.map D.str).length (p : Int) = some p := by
        unfold ixN
        rw [if_pos (by omega), if_pos (by rw [List.length_map]; omega)]
        simp
      unfold atI
      rw [e1]
      simp [nw, List.getElem?_eq_getElem q]
    exact fnO rfl (retO (ifeY (bO t1) (opO (unO rfl (f_words a)) (unO rfl (f_place a)) at_)))
  · have e : ¬ (p : Int) < (ws.length : Int) := by omega
    rw [decide_eq_false e] at t1
    have e2 : nw ws p = "" := by simp [nw, List.getElem?_eq_none (by omega : ws.length ≤ p)]
    rw [e2]
    exact fnO rfl (retO (ifeN (bO t1) rfl))
theorem take (a : At r ws p h) : c_Reader__take [.loc r] h = .ok (.str (nw ws p)) (h.set r (rdO ws (p + 1))) := by
  have t1 : asgS 1 (mthE 2 "next_word" c_Reader__next_word (vE 0) nA) [some (.loc r), none] h = .nx [some (.loc r), some (.str (nw ws p))] h := asgO ((mth a rfl rfl rfl).trans (next_word a))
  have t2 : fldA 2 "place" (fun a b => a + b) (vE 0) (cE (.int 1)) [some (.loc r), some (.str (nw ws p))] h = .nx [some (.loc r), some (.str (nw ws p))] (h.set r (rdO ws (p + 1))) := by
    have e : putFld 2 "place" h (.loc r) (.int ((p : Int) + 1)) = some (h.set r (rdO ws (p + 1))) := p_place (q := p + 1) a
    show (match fldD 2 "place" h (.loc r) with
      | some (.int i) => (match putFld 2 "place" h (.loc r) (.int (i + 1)) with
        | some hc3 => RS.nx _ hc3
        | none => .bad)
      | _ => .bad) = _
    rw [f_place a]
    dsimp only
    rw [e]
  exact fnO rfl ((seqN t1).trans ((seqN t2).trans (retO rfl)))
end
end Rdr

set_option Elab.async false
set_option linter.all false
set_option maxRecDepth 100000
set_option maxHeartbeats 4000000
set_option autoImplicit false
/-! The reader: skip, comes, names, values, columns. -/
namespace Rdr
open PySem PySem.Spec PyProof.Rows L2 Bo
theorem ne_str {hc : Hc} (x y : Str) : neO hc (.str x) (.str y) = some (.bl (!decide (x = y))) := rfl
theorem ne_strs {hc : Hc} {xs ys : List Str} (h1 : ∀ x ∈ xs, PyData.strOk x = true) (h2 : ∀ x ∈ ys, PyData.strOk x = true) : neO hc (.lst (xs.map D.str)) (.lst (ys.map D.str)) = some (.bl (!decide (xs = ys))) := by
  have e := eq_strs (hc := hc) h1 h2
  unfold eqO at e
  obtain ⟨q, h3, h4⟩ := Option.map_eq_some_iff.mp e
  cases h4
  unfold neO
  rw [h3]
  rfl
theorem cut_at {ds : List D} {p k : Nat} : Bo.cutD ds (some (p : Int)) (some ((p + k : Nat) : Int)) = (ds.drop p).take k := by
  unfold Bo.cutD
  rw [HT.sIx_nat, HT.sIx_nat]
  by_cases h : p ≤ ds.length
  · rw [Nat.min_eq_left h]
    by_cases h2 : p + k ≤ ds.length
    · rw [Nat.min_eq_left h2]
      congr 1
      omega
    · rw [Nat.min_eq_right (by omega)]
      rw [List.take_of_length_le (by rw [List.length_drop]; exact Nat.le_refl _), List.take_of_length_le (by rw [List.length_drop]; omega)]
  · rw [Nat.min_eq_right (by omega), Nat.min_eq_right (by omega)]
    rw [List.drop_of_length_le (Nat.le_refl _), List.drop_of_length_le (by omega)]
    simp
section
variable {r : Nat} {ws : List Str}
theorem fnS_rt {n : Nat} {body : Sl → Hc → RS} {d : D} {ds : List D} {h h' : Hc} {v : D} (hl : ds.length ≤ 1000) (e : body (startS n [d, .tup ds]) h = .rt v h') : fnStar 1 n body (d :: ds) h = .ok v h' := by
  unfold fnStar
  rw [if_pos ⟨by simp, by rw [sizeLine_eq, List.length_cons]; omega⟩]
  have : (d :: ds).take 1 ++ [D.tup ((d :: ds).drop 1)] = [d, .tup ds] := rfl
  rw [this, e]
theorem fnS_nx {n : Nat} {body : Sl → Hc → RS} {d : D} {ds : List D} {h h' : Hc} {sl : Sl} (hl : ds.length ≤ 1000) (e : body (startS n [d, .tup ds]) h = .nx sl h') : fnStar 1 n body (d :: ds) h = .ok .non h' := by
  unfold fnStar
  rw [if_pos ⟨by simp, by rw [sizeLine_eq, List.length_cons]; omega⟩]
  have : (d :: ds).take 1 ++ [D.tup ((d :: ds).drop 1)] = [d, .tup ds] := rfl
  rw [this, e]
theorem fnS_exc {n c : Nat} {body : Sl → Hc → RS} {d : D} {ds : List D} {h h' : Hc} {sl : Sl} (hl : ds.length ≤ 1000) (e : body (startS n [d, .tup ds]) h = .exc c sl h') : fnStar 1 n body (d :: ds) h = .exc c h' := by
  unfold fnStar
  rw [if_pos ⟨by simp, by rw [sizeLine_eq, List.length_cons]; omega⟩]
  have : (d :: ds).take 1 ++ [D.tup ((d :: ds).drop 1)] = [d, .tup ds] := rfl
  rw [this, e]
def skipP (ws : List Str) : List Str → Nat → Option Nat
  | [], p => some p
  | w :: l, p => if nw ws p = w then skipP ws l (p + 1) else none
def skipB : Sl → Hc → RS := ifS (bT (opE neO (mthE 2 "take" c_Reader__take (vE 0) nA) (vE 2))) (raiS 1 (cE (.str "an object is no text of a statement"))) (nS)
theorem skip_loop (T : Option D) : ∀ (l : List Str) (p : Nat) (h : Hc) (x : Option D), At r ws p h →
    (∃ q y h', skipP ws l p = some q ∧ loopS (nmG 2) skipB (l.map D.str) [some (.loc r), T, x] h = .nx [some (.loc r), T, y] h' ∧ At r ws q h' ∧ Mv r h h') ∨
    (∃ q y h', skipP ws l p = none ∧ loopS (nmG 2) skipB (l.map D.str) [some (.loc r), T, x] h = .exc 1 [some (.loc r), T, y] h' ∧ At r ws q h' ∧ Mv r h h')
  | [], p, h, x, a => .inl ⟨p, x, h, rfl, rfl, a, .refl _⟩
  | w :: l, p, h, x, a => by
    have t := take a
    have tst : bT (opE neO (mthE 2 "take" c_Reader__take (vE 0) nA) (vE 2)) [some (.loc r), T, some (.str w)] h = .ok (!decide (nw ws p = w)) (h.set r (rdO ws (p + 1))) :=
      bO (opO ((mth a rfl rfl rfl).trans t) (b := .str w) rfl (ne_str _ _))
    by_cases q : nw ws p = w
    · rw [decide_eq_true q] at tst
      have e1 : skipB [some (.loc r), T, some (.str w)] h = .nx [some (.loc r), T, some (.str w)] (h.set r (rdO ws (p + 1))) := ifN tst rfl
      have sk : skipP ws (w :: l) p = skipP ws l (p + 1) := by rw [skipP, if_pos q]
      rw [List.map_cons, loopCons (ft := nmG 2) (F := skipB) (sl := [some (.loc r), T, x]) rfl e1, sk]
      rcases skip_loop T l (p + 1) (h.set r (rdO ws (p + 1))) (some (.str w)) (at_set a) with ⟨q, y, h', e2, e3, a2, m2⟩ | ⟨q, y, h', e2, e3, a2, m2⟩
      · exact .inl ⟨q, y, h', e2, e3, a2, mv_set.trans m2⟩
      · exact .inr ⟨q, y, h', e2, e3, a2, mv_set.trans m2⟩
    · rw [decide_eq_false q] at tst
      have e1 : skipB [some (.loc r), T, some (.str w)] h = .exc 1 [some (.loc r), T, some (.str w)] (h.set r (rdO ws (p + 1))) := ifY tst rfl
      refine .inr ⟨p + 1, some (.str w), _, by rw [skipP, if_neg q], ?_, at_set a, mv_set⟩
      rw [List.map_cons]
      have f : nmG 2 (.str w) [some (.loc r), T, x] = some [some (.loc r), T, some (.str w)] := rfl
      simp only [loopS, f, e1]
theorem skip {l : List Str} {p : Nat} {h : Hc} (a : At r ws p h) (hl : l.length ≤ 1000) : Ends r ws h (c_Reader__skip (.loc r :: l.map D.str) h) ((skipP ws l p).map fun q => (.non, q)) := by
  rcases skip_loop (some (.tup (l.map D.str))) l p h none a with ⟨q, y, h', e2, e3, a2, m2⟩ | ⟨q, y, h', e2, e3, a2, m2⟩
  · rw [e2]
    exact ⟨h', fnS_nx (by rw [List.length_map]; exact hl) (forO (itO (d := .tup (l.map D.str)) rfl rfl) e3), a2, m2⟩
  · rw [e2]
    exact ⟨h', q, fnS_exc (by rw [List.length_map]; exact hl) (forO (itO (d := .tup (l.map D.str)) rfl rfl) e3), a2, m2⟩
def comesB (ws l : List Str) (p : Nat) : Bool := decide ((ws.drop p).take l.length = l)
def comesN (ws l : List Str) (p : Nat) : Nat := if comesB ws l p then p + l.length else p
theorem comes {l : List Str} {p : Nat} {h : Hc} (a : At r ws p h) (hl : l.length ≤ 1000) (hw : ∀ w ∈ ws, PyData.strOk w = true) (h2 : ∀ w ∈ l, PyData.strOk w = true) :
    ∃ h', c_Reader__comes (.loc r :: l.map D.str) h = .ok (.bl (comesB ws l p)) h' ∧ At r ws (comesN ws l p) h' ∧ Mv r h h' := by
  obtain ⟨T, hT⟩ : ∃ T, T = D.tup (l.map D.str) := ⟨_, rfl⟩
  have t1 : asgS 2 (blE lenD (kA (vE 1) (nA))) [some (.loc r), some T, none] h = .nx [some (.loc r), some T, some (.int (l.length : Int))] h := by
    refine asgO (blO (k1 (a := T) rfl) ?_)
    rw [hT]
    show some (D.int ((l.map D.str).length : Int)) = _
    rw [List.length_map]
  have hi : opE addD (unE (fldD 2 "place") (vE 0)) (vE 2) [some (.loc r), some T, some (.int (l.length : Int))] h = .ok (.int ((p + l.length : Nat) : Int)) h := opO (a := .int (p : Int)) (b := .int (l.length : Int)) (unO rfl (f_place a)) rfl (by show some (D.int _) = _; congr 2)
  have sl : slE (unE (fldD 2 "words") (vE 0)) (sO (unE (fldD 2 "place") (vE 0))) (sO (opE addD (unE (fldD 2 "place") (vE 0)) (vE 2))) [some (.loc r), some T, some (.int (l.length : Int))] h = .ok (.lst (((ws.drop p).take l.length).map D.str)) h := by
    refine slO (d := .lst (ws.map D.str)) (lo := some (p : Int)) (hi := some ((p + l.length : Nat) : Int)) (unO rfl (f_words a)) (sOO (unO rfl (f_place a))) (sOO hi) ?_
    show some (D.lst (Bo.cutD (ws.map D.str) (some (p : Int)) (some ((p + l.length : Nat) : Int)))) = _
    rw [cut_at, List.map_take, List.map_drop]
  have tst : bT (opE neO (slE (unE (fldD 2 "words") (vE 0)) (sO (unE (fldD 2 "place") (vE 0))) (sO (opE addD (unE (fldD 2 "place") (vE 0)) (vE 2)))) (blE listD (kA (vE 1) (nA)))) [some (.loc r), some T, some (.int (l.length : Int))] h = .ok (!decide ((ws.drop p).take l.length = l)) h :=
    bO (opO sl (b := .lst (l.map D.str)) (blO (k1 (a := T) rfl) (by rw [hT]; rfl)) (ne_strs (fun x hx => hw x (List.mem_of_mem_drop (List.mem_of_mem_take hx))) h2))
  have ln : (l.map D.str).length ≤ 1000 := by rw [List.length_map]; exact hl
  by_cases q : (ws.drop p).take l.length = l
  · have cb : comesB ws l p = true := decide_eq_true q
    have cn : comesN ws l p = p + l.length := by rw [comesN, cb]; rfl
    rw [decide_eq_true q] at tst
    rw [cb, cn]
    have t3 : fldA 2 "place" (fun a b => a + b) (vE 0) (vE 2) [some (.loc r), some T, some (.int (l.length : Int))] h = .nx [some (.loc r), some T, some (.int (l.length : Int))] (h.set r (rdO ws (p + l.length))) := by
      have e : putFld 2 "place" h (.loc r) (.int ((p : Int) + (l.length : Int))) = some (h.set r (rdO ws (p + l.length))) := p_place (q := p + l.length) a
      show (match fldD 2 "place" h (.loc r) with
        | some (.int i) => (match putFld 2 "place" h (.loc r) (.int (i + (l.length : Int))) with
          | some hc3 => RS.nx _ hc3
          | none => .bad)
        | _ => .bad) = _
      rw [f_place a]
      dsimp only
      rw [e]
    refine ⟨h.set r (rdO ws (p + l.length)), fnS_rt ln ?_, at_set a, mv_set⟩
    rw [← hT]
    exact (seqN t1).trans ((seqN (ifN tst rfl)).trans ((seqN t3).trans (retO rfl)))
  · have cb : comesB ws l p = false := decide_eq_false q
    have cn : comesN ws l p = p := by rw [comesN, cb]; rfl
    rw [decide_eq_false q] at tst
    rw [cb, cn]
    refine ⟨h, fnS_rt ln ?_, a, .refl _⟩
    rw [← hT]
    exact (seqN t1).trans (seqR (ifY tst (retO rfl)))
end
end Rdr

set_option Elab.async false
set_option linter.all false
set_option maxRecDepth 100000
set_option maxHeartbeats 4000000
set_option autoImplicit false
/-! Names and values of any length; the reader's names, values, columns. -/
namespace Rdr
open PySem PySem.Spec PyProof.Rows L2 Bo
def low (c : Nat) : Bool := decide (97 ≤ c) && decide (c ≤ 122)
def valB (x : Str) : Bool := decide (1 ≤ x.length) && (decide (x.length ≤ 8) && x.cps.toList.all low)
def resL : List Str := ["select", "distinct", "as", "from", "where", "and", "in"]
def nameB (x : Str) : Bool := valB x && !decide (x ∈ resL)
theorem bools_map {α : Type} (f : α → Bool) : ∀ l : List α, bools (l.map fun a => .bl (f a)) = some (l.map f)
  | [] => rfl
  | a :: l => by simp only [List.map_cons, bools, bools_map f l, Option.map_some]
theorem all_map {α : Type} (hc : Hc) (f : α → Bool) (l : List α) : allD hc [.lst (l.map fun a => .bl (f a))] = some (.bl (l.all f)) := by
  simp only [allD, bools_map, Option.map_some, List.all_map]
  rfl
theorem in_letters (hc : Hc) (c : Nat) : inO hc (.str ⟨#[c]⟩) (.str "abcdefghijklmnopqrstuvwxyz") = some (.bl (low c)) := by
  show some (D.bl (decide (c ∈ (Str.ofString "abcdefghijklmnopqrstuvwxyz").cps.toList))) = _
  have e : (Str.ofString "abcdefghijklmnopqrstuvwxyz").cps.toList = [97, 98, 99, 100, 101, 102, 103, 104, 105, 106, 107, 108, 109, 110, 111, 112, 113, 114, 115, 116, 117, 118, 119, 120, 121, 122] := by decide +kernel
  rw [e]
  congr 2
  unfold low
  rw [← Bool.decide_and, decide_eq_decide]
  simp only [List.mem_cons, List.not_mem_nil, or_false]
  omega
section
variable {hc : Hc}
theorem chY {f k j : Sl → Hc → Res D} {op op2 : Hc → D → D → Option D} {a b c d : D} {sl : Sl} {h1 h2 h3 : Hc} (e1 : f sl hc = .ok a h1) (e2 : k sl h1 = .ok b h2) (e : op h2 a b = some (.bl true)) (e3 : j sl h2 = .ok c h3) (e4 : op2 h3 b c = some d) : chE op op2 f k j sl hc = .ok d h3 := by
  unfold chE
  rw [e1]
  simp only [Res.bind, e2, e, e3, lift, e4]
theorem chN {f k j : Sl → Hc → Res D} {op op2 : Hc → D → D → Option D} {a b : D} {sl : Sl} {h1 h2 : Hc} (e1 : f sl hc = .ok a h1) (e2 : k sl h1 = .ok b h2) (e : op h2 a b = some (.bl false)) : chE op op2 f k j sl hc = .ok (.bl false) h2 := by
  unfold chE
  rw [e1]
  simp only [Res.bind, e2, e]
theorem orY {t u : Sl → Hc → Res Bool} {sl : Sl} {hc1 : Hc} (e1 : t sl hc = .ok true hc1) : orT t u sl hc = .ok true hc1 := by
  unfold orT
  rw [e1]
  rfl
theorem len8 (n : Nat) : leO hc (.int 1) (.int (n : Int)) = some (.bl (decide (1 ≤ n))) ∧ leO hc (.int (n : Int)) (.int 8) = some (.bl (decide (n ≤ 8))) := by
  simp only [leO]
  refine ⟨?_, ?_⟩ <;> congr 2 <;> rw [decide_eq_decide] <;> omega
theorem fits {x : Str} (hl : x.length ≤ sizeLine) (s1 : Option D) : chE leO leO (cE (.int 1)) (blE lenD (kA (vE 0) (nA))) (cE (.int 8)) [some (.str x), s1] hc = .ok (.bl (decide (1 ≤ x.length) && decide (x.length ≤ 8))) hc := by
  have ln : blE lenD (kA (vE 0) (nA)) [some (.str x), s1] hc = .ok (.int (x.length : Int)) hc := blO (k1 (a := .str x) rfl) (by simp only [lenD, if_pos hl])
  obtain ⟨h1, h2⟩ := len8 (hc := hc) x.length
  by_cases q : 1 ≤ x.length
  · rw [decide_eq_true q] at h1 ⊢
    rw [Bool.true_and]
    exact chY (a := .int 1) rfl ln h1 (c := .int 8) rfl h2
  · rw [decide_eq_false q] at h1 ⊢
    exact chN (a := .int 1) rfl ln h1
theorem letters (x : Str) : mapC (nmG 1) yT (opE inO (vE 1) (cE (.str "abcdefghijklmnopqrstuvwxyz"))) [some (.str x), none] (Bo.signs x) hc = .ok (x.cps.toList.map fun c => .bl (low c)) hc := by
  have sm : Bo.signs x = x.cps.toList.map fun c => D.str ⟨#[c]⟩ := rfl
  rw [mapC_pure (f := fun d => match d with
    | .str y => .bl (low (y.cps.toList.getD 0 0))
    | d => d)]
  · rw [sm, List.map_map]
    rfl
  · intro d hd
    rw [sm] at hd
    obtain ⟨c, _, rfl⟩ := List.mem_map.mp hd
    exact ⟨_, rfl, opO (a := .str ⟨#[c]⟩) (b := .str "abcdefghijklmnopqrstuvwxyz") rfl rfl (in_letters hc c)⟩
theorem value_str {x : Str} (hl : x.length ≤ sizeLine) : c_is_value [.str x] hc = .ok (.bl (valB x)) hc := by
  have f := fits (hc := hc) hl none
  have i1 : nT (bT (unE (isiD .str) (vE 0))) [some (.str x), none] hc = .ok false hc := nTO (b := true) (bO (unO (a := .str x) rfl rfl))
  cases q : (decide (1 ≤ x.length) && decide (x.length ≤ 8)) with
  | false =>
    rw [q] at f
    have vb : valB x = false := by
      unfold valB
      rw [← Bool.and_assoc, q, Bool.false_and]
    rw [vb]
    exact fnO rfl (seqR (ifY (orN i1 (nTO (b := false) (bO f))) (retO rfl)))
  | true =>
    rw [q] at f
    have vb : valB x = x.cps.toList.all low := by
      unfold valB
      rw [← Bool.and_assoc, q, Bool.true_and]
    rw [Bool.and_eq_true, decide_eq_true_eq, decide_eq_true_eq] at q
    rw [vb]
    have ln : (x.cps.toList.map fun c => D.bl (low c)).length ≤ 1000 := by
      rw [List.length_map]
      have : x.cps.toList.length = x.length := rfl
      omega
    exact fnO rfl ((seqN (ifN (orN i1 (nTO (b := true) (bO f))) rfl)).trans (retO (blO (k1 (lcO (ds := Bo.signs x) (itO (d := .str x) (hc1 := hc) rfl rfl) (letters x) ln)) (all_map hc low _))))
theorem low_ok {x : Str} (h : x.cps.toList.all low = true) (hl : x.length ≤ 40) : PyData.strOk x = true := Wd.ok ⟨hl, fun c hc => by
  have := List.all_eq_true.mp h c hc
  unfold low at this
  rw [Bool.and_eq_true, decide_eq_true_eq, decide_eq_true_eq] at this
  omega⟩
theorem nin_res {x : Str} (h : PyData.strOk x = true) : ninO hc (.str x) (.tup (resL.map D.str)) = some (.bl (!decide (x ∈ resL))) := by
  have hs : SeqAt.shaped (.tuple (resL.map PyData.str)) = true := by decide +kernel
  have e : inD hc (.str x) (.tup (resL.map D.str)) = some ((resL.map PyData.str).any (fun q => PyData.eqv q (.str x))) := by
    show (match toPy1 hc (.str x), toPys (resL.map D.str) with
      | some p, some qs => if SeqAt.shaped p && SeqAt.shaped (.tuple qs) then some (qs.any fun q => PyData.eqv q p) else none
      | _, _ => none) = _
    rw [toPys_strs]
    have t : toPy1 hc (.str x) = some (.str x) := rfl
    rw [t]
    simp only [shaped_str h, hs, Bool.and_self, if_true]
  have ev : ∀ y : Str, PyData.eqv (.str y) (.str x) = decide (y = x) := fun y => by
    have := eqv_strs [y] [x]
    simp only [List.map_cons, List.map_nil, PyData.eqvAll, Bool.and_true, List.cons.injEq, and_true] at this
    exact this
  have an : (resL.map PyData.str).any (fun q => PyData.eqv q (.str x)) = decide (x ∈ resL) := by
    rw [List.any_map]
    have : ∀ l : List Str, l.any ((fun q => PyData.eqv q (.str x)) ∘ PyData.str) = decide (x ∈ l) := fun l => by
      induction l with
      | nil => rfl
      | cons y l ih =>
        rw [List.any_cons, ih]
        simp only [Function.comp, ev, List.mem_cons]
        by_cases q : y = x
        · subst q; simp
        · have : ¬ x = y := fun e => q e.symm
          simp [q, this]
    exact this resL
  unfold ninO
  rw [e, an]
  rfl
theorem andEF {f k : Sl → Hc → Res D} {sl : Sl} {hc1 : Hc} (e : f sl hc = .ok (.bl false) hc1) : andE f k sl hc = .ok (.bl false) hc1 := by
  unfold andE
  rw [e]
  rfl
theorem andEY {f k : Sl → Hc → Res D} {sl : Sl} {hc1 : Hc} {q : Res D} (e : f sl hc = .ok (.bl true) hc1) (e2 : k sl hc1 = q) : andE f k sl hc = q := by
  unfold andE
  rw [e]
  exact e2
theorem name_str {x : Str} (hl : x.length ≤ sizeLine) : c_is_name [.str x] hc = .ok (.bl (nameB x)) hc := by
  have v := value_str (hc := hc) hl
  cases q : valB x with
  | false =>
    rw [q] at v
    have nb : nameB x = false := by unfold nameB; rw [q]; rfl
    rw [nb]
    exact fnO rfl (retO (andEF (callO (k1 rfl) v)))
  | true =>
    rw [q] at v
    have nb : nameB x = !decide (x ∈ resL) := by unfold nameB; rw [q]; rfl
    unfold valB at q
    rw [Bool.and_eq_true, Bool.and_eq_true, decide_eq_true_eq, decide_eq_true_eq] at q
    rw [nb]
    exact fnO rfl (retO (andEY (callO (k1 rfl) v) (opO (a := .str x) (b := .tup (resL.map D.str)) rfl rfl (nin_res (low_ok q.2.2 (by omega))))))
end
section
variable {r p : Nat} {ws : List Str} {h : Hc}
theorem nw_len (hw : ∀ w ∈ ws, w.length ≤ sizeLine) : (nw ws p).length ≤ sizeLine := by
  unfold nw
  cases q : ws[p]? with
  | none => rw [sizeLine_eq]; show 0 ≤ _; omega
  | some w => exact hw w (List.mem_of_getElem? q)
def nameP (ws : List Str) (p : Nat) : Option (Str × Nat) := if nameB (nw ws p) then some (nw ws p, p + 1) else none
theorem take_name (a : At r ws p h) (hw : ∀ w ∈ ws, w.length ≤ sizeLine) : Ends r ws h (c_Reader__take_name [.loc r] h) ((nameP ws p).map fun q => (.str q.1, q.2)) := by
  have t1 : asgS 1 (mthE 2 "take" c_Reader__take (vE 0) nA) [some (.loc r), none] h = .nx [some (.loc r), some (.str (nw ws p))] (h.set r (rdO ws (p + 1))) := asgO ((mth a rfl rfl rfl).trans (take a))
  have n := name_str (hc := h.set r (rdO ws (p + 1))) (nw_len (p := p) hw)
  have t2 : nT (bT (callE c_is_name (kA (vE 1) (nA)))) [some (.loc r), some (.str (nw ws p))] (h.set r (rdO ws (p + 1))) = .ok (!nameB (nw ws p)) (h.set r (rdO ws (p + 1))) := nTO (bO (callO (k1 rfl) n))
  unfold nameP
  cases q : nameB (nw ws p) with
  | true =>
    rw [q] at t2
    exact ⟨_, fnO rfl ((seqN t1).trans ((seqN (ifN t2 rfl)).trans (retO rfl))), at_set a, mv_set⟩
  | false =>
    rw [q] at t2
    refine ⟨h.set r (rdO ws (p + 1)), p + 1, ?_, at_set a, mv_set⟩
    have e : d_Reader__take_name [some (.loc r), none] h = .exc 1 [some (.loc r), some (.str (nw ws p))] (h.set r (rdO ws (p + 1))) := by
      unfold d_Reader__take_name
      rw [seqN t1]
      have e2 : ifS (nT (bT (callE c_is_name (kA (vE 1) (nA))))) (raiS 1 (cE (.str "an object is no text of a statement"))) (Bo.nS) [some (.loc r), some (.str (nw ws p))] (h.set r (rdO ws (p + 1))) = .exc 1 [some (.loc r), some (.str (nw ws p))] (h.set r (rdO ws (p + 1))) := ifY t2 rfl
      simp only [seqS, e2]
    show (if ([D.loc r] : List D).length = 1 then (match d_Reader__take_name (startS 2 [.loc r]) h with
      | .rt d h => Res.ok d h
      | .nx _ h => .ok .non h
      | .exc c _ h => .exc c h
      | _ => .bad) else .bad) = _
    have st : startS 2 [D.loc r] = [some (.loc r), none] := rfl
    rw [st, e]
    rfl
end
end Rdr

set_option Elab.async false
set_option linter.all false
set_option maxRecDepth 100000
set_option maxHeartbeats 4000000
set_option autoImplicit false
/-! The reader: values, columns. -/
namespace Rdr
open PySem PySem.Spec PyProof.Rows L2 Bo
section
variable {F G : Sl → Hc → RS} {f k : Sl → Hc → Res D} {fs : Sl → Hc → Res (List D)} {sl sl' : Sl} {hc hc1 h' : Hc} {c : Nat} {a : D}
theorem seqX (e : F sl hc = .exc c sl' h') : seqS F G sl hc = .exc c sl' h' := by
  unfold seqS
  rw [e]
theorem asgX {i : Nat} (e : f sl hc = .exc c h') : asgS i f sl hc = .exc c sl h' := by
  unfold asgS
  rw [e]
  rfl
theorem exX (e : f sl hc = .exc c h') : exS f sl hc = .exc c sl h' := by
  unfold exS
  rw [e]
  rfl
theorem retX (e : f sl hc = .exc c h') : retS f sl hc = .exc c sl h' := by
  unfold retS
  rw [e]
  rfl
theorem kX1 (e : f sl hc = .exc c h') : kA f fs sl hc = .exc c h' := by
  unfold kA
  rw [e]
  rfl
theorem kX2 (e : f sl hc = .ok a hc1) (e2 : fs sl hc1 = .exc c h') : kA f fs sl hc = .exc c h' := by
  unfold kA
  rw [e]
  simp only [Res.bind, e2]
theorem tupX (e : fs sl hc = .exc c h') : tupE fs sl hc = .exc c h' := by
  unfold tupE
  rw [e]
  rfl
theorem fnX {np n : Nat} {ds : List D} (hl : ds.length = np) (e : F (startS n ds) hc = .exc c sl' h') : fnR np n F ds hc = .exc c h' := by
  unfold fnR
  rw [if_pos hl, e]
end
theorem at_head {α : Type} {l : List α} {d : α} (h : 0 < l.length) : atI l 0 = some (l.getD 0 d) := by
  unfold atI ixN
  rw [if_pos (by omega), if_pos (by omega)]
  simp [List.getD, List.getElem?_eq_getElem h]
theorem at_last {α : Type} {l : List α} {d : α} (h : 0 < l.length) : atI l (-1) = some (l.getD (l.length - 1) d) := by
  unfold atI ixN
  rw [if_neg (by omega), if_pos (by omega)]
  have e : ((-1 : Int) + (l.length : Int)).toNat = l.length - 1 := by omega
  simp only [e, Option.bind_some]
  simp [List.getD, List.getElem?_eq_getElem (show l.length - 1 < l.length by omega)]
def quoB (w : Str) : Bool := decide (3 ≤ w.length) && (decide ((⟨#[w.cps.toList.getD 0 0]⟩ : Str) = "'") && decide ((⟨#[w.cps.toList.getD (w.cps.toList.length - 1) 0]⟩ : Str) = "'"))
def valueP (ws : List Str) (p : Nat) : Option (Str × Nat) := if quoB (nw ws p) then some (cutS (nw ws p) (some 1) (some (-1)), p + 1) else none
def colD (c : Option Str × Str) : D := .tup [lD c.1, .str c.2]
def colP (ws : List Str) (p : Nat) : Option ((Option Str × Str) × Nat) := (nameP ws p).bind fun (x, q) => if comesB ws ["."] q then (nameP ws (comesN ws ["."] q)).map fun (y, q2) => ((some x, y), q2) else some ((none, x), q)
section
variable {r p : Nat} {ws : List Str} {h : Hc}
theorem take_value (a : At r ws p h) (hw : ∀ w ∈ ws, w.length ≤ sizeLine) : Ends r ws h (c_Reader__take_value [.loc r] h) ((valueP ws p).map fun q => (.str q.1, q.2)) := by
  obtain ⟨w, hwd⟩ : ∃ w, w = nw ws p := ⟨_, rfl⟩
  obtain ⟨h1, hh1⟩ : ∃ h1, h1 = h.set r (rdO ws (p + 1)) := ⟨_, rfl⟩
  have hl : w.length ≤ sizeLine := by rw [hwd]; exact nw_len hw
  have tk := take a
  rw [← hwd, ← hh1] at tk
  have t1 : asgS 1 (mthE 2 "take" c_Reader__take (vE 0) nA) [some (.loc r), none] h = .nx [some (.loc r), some (.str w)] h1 := asgO ((mth a rfl rfl rfl).trans tk)
  have a1 : At r ws (p + 1) h1 := by rw [hh1]; exact at_set a
  have m1 : Mv r h h1 := by rw [hh1]; exact mv_set
  have ln : blE lenD (kA (vE 1) (nA)) [some (.loc r), some (.str w)] h1 = .ok (.int (w.length : Int)) h1 := blO (k1 (a := .str w) rfl) (by simp only [lenD, if_pos hl])
  have l3 : bT (opE ltO (blE lenD (kA (vE 1) (nA))) (cE (.int 3))) [some (.loc r), some (.str w)] h1 = .ok (decide ((w.length : Int) < 3)) h1 := bO (opO ln (b := .int 3) rfl rfl)
  unfold valueP
  rw [← hwd]
  have bad : orT (bT (opE ltO (blE lenD (kA (vE 1) (nA))) (cE (.int 3)))) (orT (bT (opE neO (opE ixD (vE 1) (cE (.int 0))) (cE (.str "'")))) (bT (opE neO (opE ixD (vE 1) (unE negD (cE (.int 1)))) (cE (.str "'"))))) [some (.loc r), some (.str w)] h1 = .ok (!quoB w) h1 := by
    by_cases q : 3 ≤ w.length
    · have e0 : decide ((w.length : Int) < 3) = false := decide_eq_false (by omega)
      rw [e0] at l3
      have hp : 0 < w.cps.toList.length := by
        have : w.cps.toList.length = w.length := rfl
        omega
      have i0 : opE ixD (vE 1) (cE (.int 0)) [some (.loc r), some (.str w)] h1 = .ok (.str ⟨#[w.cps.toList.getD 0 0]⟩) h1 := opO (a := .str w) (b := .int 0) rfl rfl (by
        show (if w.length ≤ sizeLine then (atI w.cps.toList 0).map (fun c => D.str ⟨#[c]⟩) else none) = _
        rw [if_pos hl, at_head (d := 0) hp]
        rfl)
      have i9 : opE ixD (vE 1) (unE negD (cE (.int 1))) [some (.loc r), some (.str w)] h1 = .ok (.str ⟨#[w.cps.toList.getD (w.cps.toList.length - 1) 0]⟩) h1 := opO (a := .str w) (b := .int (-1)) rfl rfl (by
        show (if w.length ≤ sizeLine then (atI w.cps.toList (-1)).map (fun c => D.str ⟨#[c]⟩) else none) = _
        rw [if_pos hl, at_last (d := 0) hp]
        rfl)
      have b0 : bT (opE neO (opE ixD (vE 1) (cE (.int 0))) (cE (.str "'"))) [some (.loc r), some (.str w)] h1 = .ok (!decide ((⟨#[w.cps.toList.getD 0 0]⟩ : Str) = "'")) h1 := bO (opO i0 (b := .str "'") rfl (ne_str _ _))
      have b9 : bT (opE neO (opE ixD (vE 1) (unE negD (cE (.int 1)))) (cE (.str "'"))) [some (.loc r), some (.str w)] h1 = .ok (!decide ((⟨#[w.cps.toList.getD (w.cps.toList.length - 1) 0]⟩ : Str) = "'")) h1 := bO (opO i9 (b := .str "'") rfl (ne_str _ _))
      refine orN l3 ?_
      unfold quoB
      rw [decide_eq_true q, Bool.true_and]
      cases z : decide ((⟨#[w.cps.toList.getD 0 0]⟩ : Str) = "'") with
      | false => rw [z] at b0; exact orY b0
      | true => rw [z] at b0; rw [Bool.true_and]; exact orN b0 b9
    · have e0 : decide ((w.length : Int) < 3) = true := decide_eq_true (by omega)
      rw [e0] at l3
      have : quoB w = false := by unfold quoB; rw [decide_eq_false q, Bool.false_and]
      rw [this]
      exact orY l3
  cases q : quoB w with
  | true =>
    rw [q] at bad
    refine ⟨h1, fnO rfl ((seqN t1).trans ((seqN (ifN bad rfl)).trans (retO (slO (d := .str w) (hc1 := h1) rfl (lo := some 1) (hc2 := h1) rfl (hi := some (-1)) rfl ?_)))), a1, m1⟩
    show (if w.length ≤ sizeLine then some (D.str (cutS w (some 1) (some (-1)))) else none) = _
    rw [if_pos hl]
  | false =>
    rw [q] at bad
    exact ⟨h1, p + 1, fnX (sl' := [some (.loc r), some (.str w)]) rfl ((seqN t1).trans (seqX (ifY bad rfl))), a1, m1⟩
theorem dot_ok : ∀ w ∈ ([Str.ofString "."] : List Str), PyData.strOk w = true := fun w hw => by
  have := List.mem_singleton.mp hw
  subst this
  decide +kernel
theorem take_column (a : At r ws p h) (hw : ∀ w ∈ ws, w.length ≤ sizeLine) (hs : ∀ w ∈ ws, PyData.strOk w = true) : Ends r ws h (c_Reader__take_column [.loc r] h) ((colP ws p).map fun q => (colD q.1, q.2)) := by
  have n := take_name a hw
  unfold colP
  cases q : nameP ws p with
  | none =>
    rw [q] at n
    obtain ⟨h1, p1, e1, a1, m1⟩ := n
    exact ⟨h1, p1, fnX (sl' := [some (.loc r), none]) rfl (seqX (asgX ((mth a rfl rfl rfl).trans e1))), a1, m1⟩
  | some xq =>
    obtain ⟨x, q1⟩ := xq
    rw [q] at n
    obtain ⟨h1, e1, a1, m1⟩ := n
    have t1 : asgS 1 (mthE 2 "take_name" c_Reader__take_name (vE 0) nA) [some (.loc r), none] h = .nx [some (.loc r), some (.str x)] h1 := asgO ((mth a rfl rfl rfl).trans e1)
    obtain ⟨h2, e2, a2, m2⟩ := comes (l := ["."]) a1 (by simp) hs dot_ok
    have t2 : bT (mthE 2 "comes" c_Reader__comes (vE 0) (kA (cE (.str ".")) (nA))) [some (.loc r), some (.str x)] h1 = .ok (comesB ws ["."] q1) h2 := bO ((mth a1 rfl rfl rfl).trans e2)
    show Ends r ws h _ ((if comesB ws ["."] q1 then (nameP ws (comesN ws ["."] q1)).map fun (y, q2) => ((some x, y), q2) else some ((none, x), q1)).map fun q => (colD q.1, q.2))
    cases z : comesB ws ["."] q1 with
    | false =>
      rw [z] at t2
      have cn : comesN ws ["."] q1 = q1 := by rw [comesN, z]; rfl
      rw [cn] at a2
      exact ⟨h2, fnO rfl ((seqN t1).trans (retO (ifeN t2 (tupO (as := [.non, .str x]) (kO rfl (k1 rfl)) (by simp))))), a2, m1.trans m2⟩
    | true =>
      rw [z] at t2
      have n2 := take_name a2 hw
      cases q2 : nameP ws (comesN ws ["."] q1) with
      | none =>
        rw [q2] at n2
        obtain ⟨h3, p3, e3, a3, m3⟩ := n2
        exact ⟨h3, p3, fnX (sl' := [some (.loc r), some (.str x)]) rfl ((seqN t1).trans (retX (ifeY t2 (tupX (kX2 (a := .str x) (hc1 := h2) rfl (kX1 ((mth a2 rfl rfl rfl).trans e3))))))), a3, (m1.trans m2).trans m3⟩
      | some yq =>
        obtain ⟨y, q3⟩ := yq
        rw [q2] at n2
        obtain ⟨h3, e3, a3, m3⟩ := n2
        exact ⟨h3, fnO rfl ((seqN t1).trans (retO (ifeY t2 (tupO (as := [.str x, .str y]) (kO (hc1 := h2) rfl (k1 ((mth a2 rfl rfl rfl).trans e3))) (by simp))))), a3, (m1.trans m2).trans m3⟩
end
end Rdr

set_option Elab.async false
set_option linter.all false
set_option maxRecDepth 100000
set_option maxHeartbeats 4000000
set_option autoImplicit false
/-! The reader: labels, sources. -/
namespace Rdr
open PySem PySem.Spec PyProof.Rows L2 Bo
section
variable {F G : Sl → Hc → RS} {f k : Sl → Hc → Res D} {t : Sl → Hc → Res Bool} {fs : Sl → Hc → Res (List D)} {sl sl' : Sl} {hc hc1 hc2 h' : Hc} {c : Nat} {a d : D} {xs ds : List D}
theorem bX (e : f sl hc = .exc c h') : bT f sl hc = .exc c h' := by
  unfold bT
  rw [e]
  rfl
theorem nX (e : t sl hc = .exc c h') : nT t sl hc = .exc c h' := by
  unfold nT
  rw [e]
  rfl
theorem ifeX (e : t sl hc = .exc c h') : ifE t f k sl hc = .exc c h' := by
  unfold ifE
  rw [e]
  rfl
theorem ifX (e : t sl hc = .exc c h') : ifS t F G sl hc = .exc c sl h' := by
  unfold ifS
  rw [e]
  rfl
theorem sAO {fa : Sl → Hc → Res D} {fr : Sl → Hc → Res (List D)} (e1 : fa sl hc = .ok d hc1) (e : seqD hc1 d = some xs) (e2 : fr sl hc1 = .ok ds hc2) : sA fa fr sl hc = .ok (xs ++ ds) hc2 := by
  unfold sA
  rw [e1]
  simp only [Res.bind, e, e2]
end
theorem lit_ok {l : List Str} (h : l.all (fun w => PyData.strOk w) = true) : ∀ w ∈ l, PyData.strOk w = true := fun w hw => List.all_eq_true.mp h w hw
section
variable {r p : Nat} {ws : List Str} {h : Hc}
/-- self.words[self.place + i:self.place + j] -/
theorem peek {i k : Nat} {I J : Int} {sl : Sl} (a : At r ws p h) (e0 : sl[0]? = some (some (.loc r))) (hI : I = (i : Int)) (hJ : J = ((i + k : Nat) : Int)) : slE (unE (fldD 2 "words") (vE 0)) (sO (opE addD (unE (fldD 2 "place") (vE 0)) (cE (.int I)))) (sO (opE addD (unE (fldD 2 "place") (vE 0)) (cE (.int J)))) sl h = .ok (.lst (((ws.drop (p + i)).take k).map D.str)) h := by
  subst hI hJ
  have lo : opE addD (unE (fldD 2 "place") (vE 0)) (cE (.int (i : Int))) sl h = .ok (.int ((p + i : Nat) : Int)) h := opO (a := .int (p : Int)) (b := .int (i : Int)) (unO (vO e0) (f_place a)) rfl (by show some (D.int _) = _; congr 2)
  have hi : opE addD (unE (fldD 2 "place") (vE 0)) (cE (.int ((i + k : Nat) : Int))) sl h = .ok (.int ((p + i + k : Nat) : Int)) h := opO (a := .int (p : Int)) (b := .int ((i + k : Nat) : Int)) (unO (vO e0) (f_place a)) rfl (by show some (D.int _) = _; congr 2; omega)
  refine slO (d := .lst (ws.map D.str)) (lo := some ((p + i : Nat) : Int)) (hi := some ((p + i + k : Nat) : Int)) (unO (vO e0) (f_words a)) (sOO lo) (sOO hi) ?_
  show some (D.lst (Bo.cutD (ws.map D.str) (some ((p + i : Nat) : Int)) (some ((p + i + k : Nat) : Int)))) = _
  rw [cut_at, List.map_take, List.map_drop]
def whereL : List Str := ["where"]
def labelP (ws : List Str) (p : Nat) : Option (Bool × Nat) := if (ws.drop (p + 1)).take 1 = whereL then some (false, p) else (skipP ws [" "] p).map fun q => (true, q)
theorem is_label (a : At r ws p h) (hs : ∀ w ∈ ws, PyData.strOk w = true) : Ends r ws h (c_Reader__is_label [.loc r] h) ((labelP ws p).map fun q => (.bl q.1, q.2)) := by
  have pk := peek (i := 1) (k := 1) (I := 1) (J := 2) (sl := [some (.loc r)]) a rfl rfl rfl
  have tst : bT (opE eqO (slE (unE (fldD 2 "words") (vE 0)) (sO (opE addD (unE (fldD 2 "place") (vE 0)) (cE (.int 1)))) (sO (opE addD (unE (fldD 2 "place") (vE 0)) (cE (.int 2))))) (lstE (kA (cE (.str "where")) (nA)))) [some (.loc r)] h = .ok (decide ((ws.drop (p + 1)).take 1 = whereL)) h :=
    bO (opO pk (b := .lst (whereL.map D.str)) rfl (eq_strs (fun x hx => hs x (List.mem_of_mem_drop (List.mem_of_mem_take hx))) (lit_ok (l := whereL) (by decide +kernel))))
  unfold labelP
  by_cases q : (ws.drop (p + 1)).take 1 = whereL
  · rw [decide_eq_true q] at tst
    rw [if_pos q]
    exact ⟨h, fnO rfl (seqR (ifY tst (retO rfl))), a, .refl _⟩
  · rw [decide_eq_false q] at tst
    rw [if_neg q]
    have sk := skip (l := [" "]) a (by simp)
    cases z : skipP ws [" "] p with
    | none =>
      rw [z] at sk
      obtain ⟨h1, p1, e1, a1, m1⟩ := sk
      exact ⟨h1, p1, fnX (sl' := [some (.loc r)]) rfl ((seqN (ifN tst rfl)).trans (seqX (exX ((mth a rfl rfl rfl).trans e1)))), a1, m1⟩
    | some q1 =>
      rw [z] at sk
      obtain ⟨h1, e1, a1, m1⟩ := sk
      exact ⟨h1, fnO rfl ((seqN (ifN tst rfl)).trans ((seqN (exO ((mth a rfl rfl rfl).trans e1))).trans (retO rfl))), a1, m1⟩
/-- the label behind a place c, read from q on -/
def lblP (ws : List Str) (c : Option Str × Str) (q : Nat) : Option (Str × Nat) := if nw ws q = " " then (labelP ws q).bind fun (b, q1) => if b then nameP ws q1 else some (c.2, q1) else some (c.2, q)
def srcP (ws : List Str) (p : Nat) : Option (((Option Str × Str) × Str) × Nat) := (colP ws p).bind fun (c, q) => (lblP ws c q).map fun (l, q1) => ((c, l), q1)
def srcD (s : (Option Str × Str) × Str) : D := .tup [lD s.1.1, .str s.1.2, .str s.2]
theorem take_source (a : At r ws p h) (hw : ∀ w ∈ ws, w.length ≤ sizeLine) (hs : ∀ w ∈ ws, PyData.strOk w = true) : Ends r ws h (c_Reader__take_source [.loc r] h) ((srcP ws p).map fun q => (srcD q.1, q.2)) := by
  have n := take_column a hw hs
  unfold srcP
  cases q : colP ws p with
  | none =>
    rw [q] at n
    obtain ⟨h1, p1, e1, a1, m1⟩ := n
    exact ⟨h1, p1, fnX (sl' := [some (.loc r), none, none]) rfl (seqX (asgX ((mth a rfl rfl rfl).trans e1))), a1, m1⟩
  | some cq =>
    obtain ⟨c, q1⟩ := cq
    rw [q] at n
    obtain ⟨h1, e1, a1, m1⟩ := n
    have t1 : asgS 1 (mthE 2 "take_column" c_Reader__take_column (vE 0) nA) [some (.loc r), none, none] h = .nx [some (.loc r), some (colD c), none] h1 := asgO ((mth a rfl rfl rfl).trans e1)
    have t2 : bT (opE eqO (mthE 2 "next_word" c_Reader__next_word (vE 0) nA) (cE (.str " "))) [some (.loc r), some (colD c), none] h1 = .ok (decide (nw ws q1 = " ")) h1 := bO (opO ((mth a1 rfl rfl rfl).trans (next_word a1)) (b := .str " ") rfl rfl)
    show Ends r ws h _ (((lblP ws c q1).map fun (l, q1) => ((c, l), q1)).map fun q => (srcD q.1, q.2))
    -- the label's expression
    have lab : Ends r ws h1 (ifE (andT (bT (opE eqO (mthE 2 "next_word" c_Reader__next_word (vE 0) nA) (cE (.str " ")))) (bT (mthE 2 "is_label" c_Reader__is_label (vE 0) nA))) (mthE 2 "take_name" c_Reader__take_name (vE 0) nA) (opE ixD (vE 1) (cE (.int 1))) [some (.loc r), some (colD c), none] h1) ((lblP ws c q1).map fun q => (.str q.1, q.2)) := by
      unfold lblP
      by_cases z : nw ws q1 = " "
      · rw [decide_eq_true z] at t2
        rw [if_pos z]
        have il := is_label a1 hs
        cases y : labelP ws q1 with
        | none =>
          rw [y] at il
          obtain ⟨h2, p2, e2, a2, m2⟩ := il
          exact ⟨h2, p2, ifeX (andY t2 (bX ((mth a1 rfl rfl rfl).trans e2))), a2, m2⟩
        | some bq =>
          obtain ⟨b, q2⟩ := bq
          rw [y] at il
          obtain ⟨h2, e2, a2, m2⟩ := il
          have t3 := andY t2 (bO ((mth (m := "is_label") (cl := c_Reader__is_label) (fs := nA) (sl := [some (.loc r), some (colD c), none]) a1 rfl rfl rfl).trans e2))
          show Ends r ws h1 _ ((if b then nameP ws q2 else some (c.2, q2)).map fun q => (.str q.1, q.2))
          cases b with
          | false => exact ⟨h2, ifeN t3 rfl, a2, m2⟩
          | true =>
            have n2 := take_name a2 hw
            show Ends r ws h1 _ ((nameP ws q2).map fun q => (.str q.1, q.2))
            cases w : nameP ws q2 with
            | none =>
              rw [w] at n2
              obtain ⟨h3, p3, e3, a3, m3⟩ := n2
              exact ⟨h3, p3, ifeY t3 ((mth a2 rfl rfl rfl).trans e3), a3, m2.trans m3⟩
            | some yq =>
              obtain ⟨y, q3⟩ := yq
              rw [w] at n2
              obtain ⟨h3, e3, a3, m3⟩ := n2
              exact ⟨h3, ifeY t3 ((mth a2 rfl rfl rfl).trans e3), a3, m2.trans m3⟩
      · rw [decide_eq_false z] at t2
        rw [if_neg z]
        exact ⟨h1, ifeN (andF t2) rfl, a1, .refl _⟩
    cases z : lblP ws c q1 with
    | none =>
      rw [z] at lab
      obtain ⟨h2, p2, e2, a2, m2⟩ := lab
      exact ⟨h2, p2, fnX (sl' := [some (.loc r), some (colD c), none]) rfl ((seqN t1).trans (seqX (asgX e2))), a2, m1.trans m2⟩
    | some lq =>
      obtain ⟨l, q2⟩ := lq
      rw [z] at lab
      obtain ⟨h2, e2, a2, m2⟩ := lab
      exact ⟨h2, fnO rfl ((seqN t1).trans ((seqN (asgO e2)).trans (retO (tupO (as := [lD c.1, .str c.2] ++ [.str l]) (sAO (d := colD c) (hc1 := h2) rfl rfl (k1 rfl)) (by simp))))), a2, m1.trans m2⟩
end
end Rdr

set_option Elab.async false
set_option linter.all false
set_option maxRecDepth 100000
set_option maxHeartbeats 4000000
set_option autoImplicit false
/-! The reader: while self.comes(..): found.append(..). -/
namespace Rdr
open PySem PySem.Spec PyProof.Rows L2 Bo
def moreP {α : Type} (ws sep : List Str) (one : Nat → Option (α × Nat)) : Nat → Nat → Option (List α × Nat)
  | 0, q => some ([], q)
  | n + 1, q => if comesB ws sep q then (one (q + sep.length)).bind fun (x, q1) => (moreP ws sep one n q1).map fun (xs, q2) => (x :: xs, q2) else some ([], q)
theorem comes_le {ws sep : List Str} {q : Nat} (h : comesB ws sep q = true) (hp : 0 < sep.length) : q + sep.length ≤ ws.length := by
  have e := of_decide_eq_true (show decide _ = true from h)
  have := congrArg List.length e
  rw [List.length_take, List.length_drop] at this
  omega
section
variable {α : Type} {f : α → D} {ws sep : List Str} {one : Nat → Option (α × Nat)} {it : Sl → Hc → Res D} {fsep : Sl → Hc → Res (List D)} {sl : Sl} {i l r : Nat} {h0 : Hc}
theorem many (e0 : sl[0]? = some (some (.loc r))) (ei : sl[i]? = some (some (.loc l))) (hrl : r < l) (hl0 : h0.next ≤ l) (es : ∀ h, fsep sl h = .ok (sep.map D.str) h) (hp : 0 < sep.length) (hp2 : sep.length ≤ 1000) (hw : ∀ w ∈ ws, PyData.strOk w = true) (h2 : ∀ w ∈ sep, PyData.strOk w = true)
    (mono : ∀ q x q', one q = some (x, q') → q ≤ q') (hit : ∀ q h, At r ws q h → r < h.next → Ends r ws h (it sl h) ((one q).map fun x => (f x.1, x.2))) :
    ∀ (n q : Nat) (h : Hc) (acc : List D), At r ws q h → l < h.next → h.get l = some (.lst acc) → Mv r h0 h → 1 ≤ n → ws.length < q + n → acc.length + n ≤ 1000000 →
      (∃ xs q' h', moreP ws sep one n q = some (xs, q') ∧ whileS (bT (mthE 2 "comes" c_Reader__comes (vE 0) fsep)) (exS (mtE appD (vE i) (kA it (nA)))) n sl h = .nx sl h' ∧ At r ws q' h' ∧ h'.get l = some (.lst (acc ++ xs.map f)) ∧ Mv r h0 h' ∧ l < h'.next) ∨
      (∃ q' h', moreP ws sep one n q = none ∧ whileS (bT (mthE 2 "comes" c_Reader__comes (vE 0) fsep)) (exS (mtE appD (vE i) (kA it (nA)))) n sl h = .exc 1 sl h' ∧ At r ws q' h' ∧ Mv r h0 h')
  | 0, q, h, acc, a, hn, hg, m0, h1, hq, hb => absurd h1 (by omega)
  | n + 1, q, h, acc, a, hn, hg, m0, h1, hq, hb => by
    obtain ⟨ha, ea, aa, ma⟩ := comes (l := sep) a hp2 hw h2
    have tst : bT (mthE 2 "comes" c_Reader__comes (vE 0) fsep) sl h = .ok (comesB ws sep q) ha := bO ((mth a e0 rfl (es h)).trans ea)
    have ga : ha.get l = some (.lst acc) := by rw [ma.keep l hn (by omega)]; exact hg
    have na : l < ha.next := Nat.lt_of_lt_of_le hn ma.nx
    cases z : comesB ws sep q with
    | false =>
      rw [z] at tst
      have cn : comesN ws sep q = q := by rw [comesN, z]; rfl
      rw [cn] at aa
      refine .inl ⟨[], q, ha, ?_, ?_, aa, by simpa using ga, m0.trans ma, na⟩
      · rw [moreP, if_neg (by rw [z]; decide)]
      · unfold whileS
        rw [tst]
        rfl
    | true =>
      rw [z] at tst
      have cn : comesN ws sep q = q + sep.length := by rw [comesN, z]; rfl
      rw [cn] at aa
      have le := comes_le z hp
      have hi := hit (q + sep.length) ha aa (by omega)
      have mp : moreP ws sep one (n + 1) q = (one (q + sep.length)).bind fun (x, q1) => (moreP ws sep one n q1).map fun (xs, q2) => (x :: xs, q2) := by rw [moreP, if_pos z]
      cases y : one (q + sep.length) with
      | none =>
        rw [y] at hi
        obtain ⟨hb', pb, eb, ab, mb⟩ := hi
        refine .inr ⟨pb, hb', by rw [mp, y]; rfl, ?_, ab, (m0.trans ma).trans mb⟩
        have e1 : exS (mtE appD (vE i) (kA it (nA))) sl ha = .exc 1 sl hb' := exX (by
          unfold mtE
          rw [vO ei]
          simp only [Res.bind, loc_of ga, if_true, kX1 (fs := nA) eb])
        unfold whileS
        rw [tst]
        simp only [Res.toS, if_true, e1]
      | some xq =>
        obtain ⟨x, q1⟩ := xq
        rw [y] at hi
        obtain ⟨hb', eb, ab, mb⟩ := hi
        have gb : hb'.get l = some (.lst acc) := by rw [mb.keep l na (by omega)]; exact ga
        have ap : appD hb' (.loc l) [f x] = some (.non, hb'.set l (.lst (acc ++ [f x]))) := by
          have : acc.length < sizeLine := by rw [sizeLine_eq]; omega
          simp only [appD, gb, if_pos this]
        have e1 : exS (mtE appD (vE i) (kA it (nA))) sl ha = .nx sl (hb'.set l (.lst (acc ++ [f x]))) := exO (mtO (d := .loc l) (vO ei) (loc_of ga) (k1 eb) ap)
        have ac : At r ws q1 (hb'.set l (.lst (acc ++ [f x]))) := (get_set_ne (by omega)).trans ab
        have mc : Mv r h0 (hb'.set l (.lst (acc ++ [f x]))) := mv_setl ((m0.trans ma).trans mb) hl0 hrl
        have nb : l < (hb'.set l (.lst (acc ++ [f x]))).next := Nat.lt_of_lt_of_le na mb.nx
        have mo := mono _ _ _ y
        have wh : whileS (bT (mthE 2 "comes" c_Reader__comes (vE 0) fsep)) (exS (mtE appD (vE i) (kA it (nA)))) (n + 1) sl h = whileS (bT (mthE 2 "comes" c_Reader__comes (vE 0) fsep)) (exS (mtE appD (vE i) (kA it (nA)))) n sl (hb'.set l (.lst (acc ++ [f x]))) := by
          rw [whileS, tst]
          simp only [Res.toS, if_true, e1]
        rw [wh, mp, y]
        rcases many e0 ei hrl hl0 es hp hp2 hw h2 mono hit n q1 (hb'.set l (.lst (acc ++ [f x]))) (acc ++ [f x]) ac nb (get_set_self gb) mc (by omega) (by omega) (by rw [List.length_append]; show _ + 1 + _ ≤ _; omega) with ⟨xs, q', h', g1, g2, g3, g4, g5, g6⟩ | ⟨q', h', g1, g2, g3, g4⟩
        · refine .inl ⟨x :: xs, q', h', ?_, g2, g3, by rw [g4, List.map_cons, List.append_assoc]; rfl, g5, g6⟩
          show (moreP ws sep one n q1).map (fun (xs, q2) => (x :: xs, q2)) = _
          rw [g1]
          rfl
        · refine .inr ⟨q', h', ?_, g2, g3, g4⟩
          show (moreP ws sep one n q1).map (fun (xs, q2) => (x :: xs, q2)) = _
          rw [g1]
          rfl
theorem more_mono (mono : ∀ q x q', one q = some (x, q') → q ≤ q') : ∀ (n q : Nat) (xs : List α) (q' : Nat), moreP ws sep one n q = some (xs, q') → q ≤ q'
  | 0, q, xs, q', h => by cases h; exact Nat.le_refl _
  | n + 1, q, xs, q', h => by
    rw [moreP] at h
    split at h
    · obtain ⟨⟨x, q1⟩, h1, h2⟩ := Option.bind_eq_some_iff.mp h
      obtain ⟨⟨ys, q2⟩, h3, h4⟩ := Option.map_eq_some_iff.mp h2
      cases h4
      have := mono _ _ _ h1
      have := more_mono mono n q1 ys q' h3
      omega
    · cases h; exact Nat.le_refl _
end
end Rdr

set_option Elab.async false
set_option linter.all false
set_option maxRecDepth 100000
set_option maxHeartbeats 4000000
set_option autoImplicit false
/-! The reader: parts, terms. -/
namespace Rdr
open PySem PySem.Spec PyProof.Rows L2 Bo
def cmL : List Str := [",", " "]
def partsP {α : Type} (ws : List Str) (one : Nat → Option (α × Nat)) (q : Nat) : Option (List α × Nat) := (one q).bind fun (x, q1) => (moreP ws cmL one 20000 q1).map fun (xs, q2) => (x :: xs, q2)
theorem parts_mono {α : Type} {ws : List Str} {one : Nat → Option (α × Nat)} (mono : ∀ q x q', one q = some (x, q') → q ≤ q') : ∀ q xs q', partsP ws one q = some (xs, q') → q ≤ q' := fun q xs q' h => by
  obtain ⟨⟨x, q1⟩, h1, h2⟩ := Option.bind_eq_some_iff.mp h
  obtain ⟨⟨ys, q2⟩, h3, h4⟩ := Option.map_eq_some_iff.mp h2
  cases h4
  have := mono _ _ _ h1
  have := more_mono mono _ _ _ _ h3
  omega
theorem newX {fs : Sl → Hc → Res (List D)} {sl : Sl} {hc h' : Hc} {c : Nat} (e : fs sl hc = .exc c h') : newE fs sl hc = .exc c h' := by
  unfold newE
  rw [e]
  rfl
section
variable {α : Type} {f : α → D} {ws : List Str} {one : Nat → Option (α × Nat)} {r p n : Nat} {h : Hc} {kd : D}
theorem take_parts (hwl : ws.length ≤ 19000) (hw : ∀ w ∈ ws, PyData.strOk w = true) (mono : ∀ q x q', one q = some (x, q') → q ≤ q')
    (hit : ∀ q h, At r ws q h → r < h.next → Ends r ws h (c_G2 n 0 [.loc r, kd] h) ((one q).map fun x => (f x.1, x.2))) (a : At r ws p h) (hr : r < h.next) :
    Ends r ws h (c_G2 (n + 1) 1 [.loc r, kd] h) ((partsP ws one p).map fun x => (.tup (x.1.map f), x.2)) := by
  have h1 := hit p h a hr
  unfold partsP
  cases y : one p with
  | none =>
    rw [y] at h1
    obtain ⟨h2, p2, e2, a2, m2⟩ := h1
    exact ⟨h2, p2, fnX (sl' := [some (.loc r), some kd, none]) rfl (seqX (asgX (newX (kX1 ((mth a rfl rfl rfl).trans e2))))), a2, m2⟩
  | some xq =>
    obtain ⟨x, q1⟩ := xq
    rw [y] at h1
    obtain ⟨h2, e2, a2, m2⟩ := h1
    obtain ⟨l, hl⟩ : ∃ l, l = h2.next := ⟨_, rfl⟩
    obtain ⟨h3, h3e⟩ : ∃ h3, h3 = h2.new (.lst [f x]) := ⟨_, rfl⟩
    have t1 : asgS 2 (newE (kA (mthE 2 "take_part" (c_G2 n 0) (vE 0) (kA (vE 1) (nA))) (nA))) [some (.loc r), some kd, none] h = .nx [some (.loc r), some kd, some (.loc l)] h3 := by
      rw [hl, h3e]
      exact asgO (newO (as := [f x]) (k1 ((mth a rfl rfl rfl).trans e2)) (by simp))
    have r2 : r < h2.next := Nat.lt_of_lt_of_le hr m2.nx
    have a3 : At r ws q1 h3 := by
      show h3.get r = _
      rw [h3e, Hc.get_new, if_neg (by omega)]
      exact a2
    have m3 : Mv r h h3 := by rw [h3e]; exact m2.trans (mv_new r2)
    have g3 : h3.get l = some (.lst [f x]) := by rw [h3e, Hc.get_new, if_pos hl]
    have n3 : l < h3.next := by rw [h3e, hl]; exact Nat.lt_succ_self _
    have mo := mono _ _ _ y
    have mp : (some (x, q1)).bind (fun (x, q1) => (moreP ws cmL one 20000 q1).map fun (xs, q2) => (x :: xs, q2)) = (moreP ws cmL one 20000 q1).map fun (xs, q2) => (x :: xs, q2) := rfl
    rw [mp]
    rcases many (f := f) (sep := cmL) (one := one) (it := mthE 2 "take_part" (c_G2 n 0) (vE 0) (kA (vE 1) (nA))) (fsep := kA (cE (.str ",")) (kA (cE (.str " ")) (nA))) (sl := [some (.loc r), some kd, some (.loc l)]) (i := 2) (l := l) (r := r) (h0 := h) (ws := ws) rfl rfl (by omega) (by rw [hl]; exact m2.nx) (fun _ => rfl) (by decide) (by decide) hw (lit_ok (by decide +kernel)) mono
      (fun q h' a' hn' => by rw [mth a' rfl rfl rfl]; exact hit q h' a' hn') 20000 q1 h3 [f x] a3 n3 g3 m3 (by omega) (by omega) (by simp) with ⟨xs, q', h', g1, g2, g4, g5, g6, g7⟩ | ⟨q', h', g1, g2, g4, g5⟩
    · rw [g1]
      exact ⟨h', fnO rfl ((seqN t1).trans ((seqN g2).trans (retO (blO (k1 rfl) (tuple_of g5))))), g4, g6⟩
    · rw [g1]
      exact ⟨h', q', fnX (sl' := [some (.loc r), some kd, some (.loc l)]) rfl ((seqN t1).trans (seqX g2)), g4, g5⟩
end
theorem name_mono {ws : List Str} : ∀ q x q', nameP ws q = some (x, q') → q ≤ q' := fun q x q' h => by
  unfold nameP at h
  split at h
  · cases h; omega
  · cases h
theorem value_mono {ws : List Str} : ∀ q x q', valueP ws q = some (x, q') → q ≤ q' := fun q x q' h => by
  unfold valueP at h
  split at h
  · cases h; omega
  · cases h
theorem comesN_le {ws l : List Str} {q : Nat} : q ≤ comesN ws l q := by
  unfold comesN
  split <;> omega
theorem col_mono {ws : List Str} : ∀ q x q', colP ws q = some (x, q') → q ≤ q' := fun q x q' h => by
  obtain ⟨⟨y, q1⟩, h1, h2⟩ := Option.bind_eq_some_iff.mp h
  have m1 := name_mono _ _ _ h1
  dsimp only at h2
  split at h2
  · obtain ⟨⟨z, q2⟩, h3, h4⟩ := Option.map_eq_some_iff.mp h2
    cases h4
    have := name_mono _ _ _ h3
    have := comesN_le (ws := ws) (l := ["."]) (q := q1)
    omega
  · cases h2; exact m1
theorem skip_mono {ws : List Str} : ∀ (l : List Str) (q q' : Nat), skipP ws l q = some q' → q ≤ q'
  | [], q, q', h => by cases h; exact Nat.le_refl _
  | w :: l, q, q', h => by
    rw [skipP] at h
    split at h
    · have := skip_mono l (q + 1) q' h; omega
    · cases h
end Rdr

set_option Elab.async false
set_option linter.all false
set_option maxRecDepth 100000
set_option maxHeartbeats 4000000
set_option autoImplicit false
/-! The reader: terms. -/
namespace Rdr
open PySem PySem.Spec PyProof.Rows L2 Bo
def startsQ (w : Str) : Bool := decide (cutS w none (some 1) = "'")
def opL : List Str := ["("]
def clL : List Str := [")"]
def callD (c : Option Str × Str) (ts : List D) : D := .tup [.str "call", lD c.1, .str c.2, .tup ts]
def termP (ws : List Str) : Nat → Nat → Option (D × Nat)
  | 0, q => if startsQ (nw ws q) then (valueP ws q).map fun (x, q1) => (.str x, q1) else (colP ws q).map fun (c, q1) => (colD c, q1)
  | d + 1, q => if startsQ (nw ws q) then (valueP ws q).map fun (x, q1) => (.str x, q1) else (colP ws q).bind fun (c, q1) =>
      if comesB ws opL q1 then (partsP ws (termP ws d) (comesN ws opL q1)).bind fun (ts, q2) => (skipP ws clL q2).map fun q3 => (callD c ts, q3) else some (colD c, q1)
theorem term_mono {ws : List Str} : ∀ (d q : Nat) (x : D) (q' : Nat), termP ws d q = some (x, q') → q ≤ q'
  | 0, q, x, q', h => by
    rw [termP] at h
    split at h
    · obtain ⟨⟨y, q1⟩, h1, h2⟩ := Option.map_eq_some_iff.mp h
      cases h2
      exact value_mono _ _ _ h1
    · obtain ⟨⟨y, q1⟩, h1, h2⟩ := Option.map_eq_some_iff.mp h
      cases h2
      exact col_mono _ _ _ h1
  | d + 1, q, x, q', h => by
    rw [termP] at h
    split at h
    · obtain ⟨⟨y, q1⟩, h1, h2⟩ := Option.map_eq_some_iff.mp h
      cases h2
      exact value_mono _ _ _ h1
    · obtain ⟨⟨y, q1⟩, h1, h2⟩ := Option.bind_eq_some_iff.mp h
      have m1 := col_mono _ _ _ h1
      dsimp only at h2
      split at h2
      · obtain ⟨⟨ts, q2⟩, h3, h4⟩ := Option.bind_eq_some_iff.mp h2
        obtain ⟨q3, h5, h6⟩ := Option.map_eq_some_iff.mp h4
        cases h6
        have := parts_mono (term_mono d) _ _ _ h3
        have := skip_mono _ _ _ h5
        have := comesN_le (ws := ws) (l := opL) (q := q1)
        omega
      · cases h2; exact m1
section
variable {ws : List Str} {r : Nat}
theorem part_int {d n q : Nat} {h : Hc} (hd : d ≤ 3) : c_G2 (n + 1) 0 [.loc r, .int (d : Int)] h = c_G2 (n + 1) 0 [.loc r, .int (d : Int)] h := rfl
/-- take_part(depth) is take_term(depth) -/
theorem part_term {d n q : Nat} {h : Hc} {o : Option (D × Nat)} (hd : d ≤ 3) (a : At r ws q h) (e : Ends r ws h (c_G2 n 2 [.loc r, .int (d : Int)] h) o) : Ends r ws h (c_G2 (n + 1) 0 [.loc r, .int (d : Int)] h) o := by
  have hd' : d = 0 ∨ d = 1 ∨ d = 2 ∨ d = 3 := by omega
  have ne : ∀ s : Str, s ∈ (["name", "value", "told", "source"] : List Str) → bT (opE eqO (vE 1) (cE (.str s))) [some (.loc r), some (.int (d : Int))] h = .ok false h := fun s hs => by
    have : eqO h (.int (d : Int)) (.str s) = some (.bl false) := by
      simp only [List.mem_cons, List.not_mem_nil, or_false] at hs
      rcases hd' with rfl | rfl | rfl | rfl <;> rcases hs with rfl | rfl | rfl | rfl <;> kernel_rfl
    exact bO (opO (a := .int (d : Int)) (b := .str s) rfl rfl this)
  have body : ∀ {res : Res D}, c_G2 n 2 [.loc r, .int (d : Int)] h = res → ifE (bT (opE eqO (vE 1) (cE (.str "source")))) (mthE 2 "take_source" c_Reader__take_source (vE 0) nA) (mthE 2 "take_term" (c_G2 n 2) (vE 0) (kA (vE 1) (nA))) [some (.loc r), some (.int (d : Int))] h = res := fun e => ifeN (ne "source" (by simp)) ((mth a rfl rfl rfl).trans e)
  cases o with
  | none =>
    obtain ⟨h', p', e1, a1, m1⟩ := e
    exact ⟨h', p', fnX (sl' := [some (.loc r), some (.int (d : Int))]) rfl ((seqN (ifN (ne "name" (by simp)) rfl)).trans ((seqN (ifN (ne "value" (by simp)) rfl)).trans ((seqN (ifN (ne "told" (by simp)) rfl)).trans (retX (body e1))))), a1, m1⟩
  | some vp =>
    obtain ⟨v, p'⟩ := vp
    obtain ⟨h', e1, a1, m1⟩ := e
    exact ⟨h', fnO rfl ((seqN (ifN (ne "name" (by simp)) rfl)).trans ((seqN (ifN (ne "value" (by simp)) rfl)).trans ((seqN (ifN (ne "told" (by simp)) rfl)).trans (retO (body e1))))), a1, m1⟩
theorem take_term (hwl : ws.length ≤ 19000) (hw : ∀ w ∈ ws, w.length ≤ sizeLine) (hs : ∀ w ∈ ws, PyData.strOk w = true) : ∀ (d n q : Nat) (h : Hc), d ≤ 3 → 3 * d ≤ n → At r ws q h → r < h.next → Ends r ws h (c_G2 (n + 1) 2 [.loc r, .int (d : Int)] h) (termP ws d q)
  | d, n, q, h, hd, hn, a, hr => by
    have hl : (nw ws q).length ≤ sizeLine := nw_len hw
    have tst : bT (opE eqO (slE (mthE 2 "next_word" c_Reader__next_word (vE 0) nA) nO (sO (cE (.int 1)))) (cE (.str "'"))) [some (.loc r), some (.int (d : Int)), none, none] h = .ok (startsQ (nw ws q)) h := by
      refine bO (opO (a := .str (cutS (nw ws q) none (some 1))) (b := .str "'") (slO (d := .str (nw ws q)) (lo := none) (hi := some 1) ((mth a rfl rfl rfl).trans (next_word a)) rfl rfl ?_) rfl rfl)
      show (if (nw ws q).length ≤ sizeLine then some (D.str (cutS (nw ws q) none (some 1))) else none) = _
      rw [if_pos hl]
    cases z : startsQ (nw ws q) with
    | true =>
      rw [z] at tst
      have e : termP ws d q = (valueP ws q).map fun (x, q1) => (.str x, q1) := by cases d <;> rw [termP, if_pos z]
      rw [e]
      have v := take_value a hw
      cases y : valueP ws q with
      | none =>
        rw [y] at v
        obtain ⟨h1, p1, e1, a1, m1⟩ := v
        exact ⟨h1, p1, fnX (sl' := [some (.loc r), some (.int (d : Int)), none, none]) rfl (seqX (ifY tst (retX ((mth a rfl rfl rfl).trans e1)))), a1, m1⟩
      | some xq =>
        obtain ⟨x, q1⟩ := xq
        rw [y] at v
        obtain ⟨h1, e1, a1, m1⟩ := v
        exact ⟨h1, fnO rfl (seqR (ifY tst (retO ((mth a rfl rfl rfl).trans e1)))), a1, m1⟩
    | false =>
      rw [z] at tst
      have cl := take_column a hw hs
      cases y : colP ws q with
      | none =>
        rw [y] at cl
        obtain ⟨h1, p1, e1, a1, m1⟩ := cl
        have e : termP ws d q = none := by cases d <;> rw [termP, if_neg (by rw [z]; decide), y] <;> rfl
        rw [e]
        exact ⟨h1, p1, fnX (sl' := [some (.loc r), some (.int (d : Int)), none, none]) rfl ((seqN (ifN tst rfl)).trans (seqX (asgX ((mth a rfl rfl rfl).trans e1)))), a1, m1⟩
      | some cq =>
        obtain ⟨c, q1⟩ := cq
        rw [y] at cl
        obtain ⟨h1, e1, a1, m1⟩ := cl
        have t1 : asgS 2 (mthE 2 "take_column" c_Reader__take_column (vE 0) nA) [some (.loc r), some (.int (d : Int)), none, none] h = .nx [some (.loc r), some (.int (d : Int)), some (colD c), none] h1 := asgO ((mth a rfl rfl rfl).trans e1)
        have t0 : bT (opE eqO (vE 1) (cE (.int 0))) [some (.loc r), some (.int (d : Int)), some (colD c), none] h1 = .ok (decide ((d : Int) = 0)) h1 := bO (opO (a := .int (d : Int)) (b := .int 0) rfl rfl rfl)
        cases d with
        | zero =>
          have e : termP ws 0 q = some (colD c, q1) := by rw [termP, if_neg (by rw [z]; decide), y]; rfl
          rw [e]
          exact ⟨h1, fnO rfl ((seqN (ifN tst rfl)).trans ((seqN t1).trans (seqR (ifY (orY t0) (retO rfl))))), a1, m1⟩
        | succ d =>
          have td : decide (((d + 1 : Nat) : Int) = 0) = false := decide_eq_false (by omega)
          rw [td] at t0
          obtain ⟨h2, e2, a2, m2⟩ := comes (l := opL) a1 (by decide) hs (lit_ok (by decide +kernel))
          have t2 : bT (mthE 2 "comes" c_Reader__comes (vE 0) (kA (cE (.str "(")) (nA))) [some (.loc r), some (.int ((d + 1 : Nat) : Int)), some (colD c), none] h1 = .ok (comesB ws opL q1) h2 := bO ((mth a1 rfl rfl rfl).trans e2)
          cases w : comesB ws opL q1 with
          | false =>
            rw [w] at t2
            have cn : comesN ws opL q1 = q1 := by rw [comesN, w]; rfl
            rw [cn] at a2
            have e : termP ws (d + 1) q = some (colD c, q1) := by rw [termP, if_neg (by rw [z]; decide), y]; show (if comesB ws opL q1 = true then _ else _) = _; rw [if_neg (by rw [w]; decide)]
            rw [e]
            exact ⟨h2, fnO rfl ((seqN (ifN tst rfl)).trans ((seqN t1).trans (seqR (ifY (orN t0 (nTO (b := false) t2)) (retO rfl))))), a2, m1.trans m2⟩
          | true =>
            rw [w] at t2
            have e : termP ws (d + 1) q = (partsP ws (termP ws d) (comesN ws opL q1)).bind fun (ts, q2) => (skipP ws clL q2).map fun q3 => (callD c ts, q3) := by rw [termP, if_neg (by rw [z]; decide), y]; show (if comesB ws opL q1 = true then _ else _) = _; rw [if_pos w]
            rw [e]
            obtain ⟨n', rfl⟩ : ∃ n', n = n' + 3 := ⟨n - 3, by omega⟩
            have r2 : r < h2.next := Nat.lt_of_lt_of_le (Nat.lt_of_lt_of_le hr m1.nx) m2.nx
            have tp := take_parts (f := fun x : D => x) (one := termP ws d) (n := n' + 2) (kd := .int (d : Int)) hwl hs (term_mono d) (fun q h a hn => by
              have := part_term (n := n' + 1) (by omega) a (take_term hwl hw hs d n' q h (by omega) (by omega) a hn)
              have id : (termP ws d q).map (fun x => (x.1, x.2)) = termP ws d q := by cases termP ws d q <;> rfl
              rw [id]
              exact this) a2 r2
            have sb : opE subD (vE 1) (cE (.int 1)) [some (.loc r), some (.int ((d + 1 : Nat) : Int)), some (colD c), none] h2 = .ok (.int (d : Int)) h2 := opO (a := .int ((d + 1 : Nat) : Int)) (b := .int 1) rfl rfl (by show some (D.int (((d + 1 : Nat) : Int) - 1)) = _; congr 2; omega)
            have go : ifS (orT (bT (opE eqO (vE 1) (cE (.int 0)))) (nT (bT (mthE 2 "comes" c_Reader__comes (vE 0) (kA (cE (.str "(")) (nA)))))) (retS (vE 2)) (Bo.nS) [some (.loc r), some (.int ((d + 1 : Nat) : Int)), some (colD c), none] h1 = .nx [some (.loc r), some (.int ((d + 1 : Nat) : Int)), some (colD c), none] h2 := ifN (orN t0 (nTO (b := true) t2)) rfl
            cases v : partsP ws (termP ws d) (comesN ws opL q1) with
            | none =>
              rw [v] at tp
              obtain ⟨h3, p3, e3, a3, m3⟩ := tp
              exact ⟨h3, p3, fnX (sl' := [some (.loc r), some (.int ((d + 1 : Nat) : Int)), some (colD c), none]) rfl ((seqN (ifN tst rfl)).trans ((seqN t1).trans ((seqN go).trans (seqX (asgX ((mth a2 rfl rfl (k1 sb)).trans e3)))))), a3, (m1.trans m2).trans m3⟩
            | some tq =>
              obtain ⟨ts, q2⟩ := tq
              rw [v] at tp
              obtain ⟨h3, e3, a3, m3⟩ := tp
              have idm : ts.map (fun x : D => x) = ts := List.map_id' ts
              have e3' : c_G2 (n' + 2 + 1) 1 [.loc r, .int (d : Int)] h2 = .ok (.tup ts) h3 := by
                have e3'' : c_G2 (n' + 2 + 1) 1 [.loc r, .int (d : Int)] h2 = .ok (.tup (ts.map (fun x : D => x))) h3 := e3
                rw [idm] at e3''
                exact e3''
              have t3 : asgS 3 (mthE 2 "take_parts" (c_G2 (n' + 3) 1) (vE 0) (kA (opE subD (vE 1) (cE (.int 1))) (nA))) [some (.loc r), some (.int ((d + 1 : Nat) : Int)), some (colD c), none] h2 = .nx [some (.loc r), some (.int ((d + 1 : Nat) : Int)), some (colD c), some (.tup ts)] h3 := asgO ((mth a2 rfl rfl (k1 sb)).trans e3')
              have sk := skip (l := clL) a3 (by decide)
              show Ends r ws h _ ((skipP ws clL q2).map fun q3 => (callD c ts, q3))
              cases u : skipP ws clL q2 with
              | none =>
                rw [u] at sk
                obtain ⟨h4, p4, e4, a4, m4⟩ := sk
                exact ⟨h4, p4, fnX (sl' := [some (.loc r), some (.int ((d + 1 : Nat) : Int)), some (colD c), some (.tup ts)]) rfl ((seqN (ifN tst rfl)).trans ((seqN t1).trans ((seqN go).trans ((seqN t3).trans (seqX (exX ((mth a3 rfl rfl rfl).trans e4))))))), a4, ((m1.trans m2).trans m3).trans m4⟩
              | some q3 =>
                rw [u] at sk
                obtain ⟨h4, e4, a4, m4⟩ := sk
                exact ⟨h4, fnO rfl ((seqN (ifN tst rfl)).trans ((seqN t1).trans ((seqN go).trans ((seqN t3).trans ((seqN (exO ((mth a3 rfl rfl rfl).trans e4))).trans (retO (tupO (as := [.str "call"] ++ ([lD c.1, .str c.2] ++ [.tup ts])) (kO rfl (sAO (d := colD c) (hc1 := h4) rfl rfl (k1 rfl))) (by simp)))))))), a4, ((m1.trans m2).trans m3).trans m4⟩
end
end Rdr

set_option Elab.async false
set_option linter.all false
set_option maxRecDepth 100000
set_option maxHeartbeats 4000000
set_option autoImplicit false
/-! The reader: parts of a kind, what is told. -/
namespace Rdr
open PySem PySem.Spec PyProof.Rows L2 Bo
theorem Ends.ret {r : Nat} {ws : List Str} {h : Hc} {F : Sl → Hc → RS} {np n : Nat} {ds : List D} {sl : Sl} {res : Res D} {o : Option (D × Nat)} (hl : ds.length = np) (hx : ∀ h', res = .exc 1 h' → F (startS n ds) h = .exc 1 sl h') (ho : ∀ v h', res = .ok v h' → F (startS n ds) h = .rt v h') (e : Ends r ws h res o) : Ends r ws h (fnR np n F ds h) o := by
  cases o with
  | none =>
    obtain ⟨h', p', e1, a1, m1⟩ := e
    exact ⟨h', p', fnX hl (hx h' e1), a1, m1⟩
  | some vp =>
    obtain ⟨v, p'⟩ := vp
    obtain ⟨h', e1, a1, m1⟩ := e
    exact ⟨h', fnO hl (ho v h' e1), a1, m1⟩
section
variable {ws : List Str} {r q n : Nat} {h : Hc} {o : Option (D × Nat)}
theorem kind_eq {s t : Str} : bT (opE eqO (vE 1) (cE (.str t))) [some (.loc r), some (.str s)] h = .ok (decide (s = t)) h := bO (opO (a := .str s) (b := .str t) rfl rfl rfl)
theorem kind_no {s t : Str} (hn : s ≠ t) : bT (opE eqO (vE 1) (cE (.str t))) [some (.loc r), some (.str s)] h = .ok false h := by
  have := kind_eq (r := r) (h := h) (s := s) (t := t)
  rw [decide_eq_false hn] at this
  exact this
theorem kind_yes {s : Str} : bT (opE eqO (vE 1) (cE (.str s))) [some (.loc r), some (.str s)] h = .ok true h := by
  have := kind_eq (r := r) (h := h) (s := s) (t := s)
  rw [decide_eq_true rfl] at this
  exact this
theorem n_vn : Str.ofString "value" ≠ Str.ofString "name" := by decide +kernel
theorem n_tn : Str.ofString "told" ≠ Str.ofString "name" := by decide +kernel
theorem n_tv : Str.ofString "told" ≠ Str.ofString "value" := by decide +kernel
theorem n_sn : Str.ofString "source" ≠ Str.ofString "name" := by decide +kernel
theorem n_sv : Str.ofString "source" ≠ Str.ofString "value" := by decide +kernel
theorem n_st : Str.ofString "source" ≠ Str.ofString "told" := by decide +kernel
theorem part_value (a : At r ws q h) (e : Ends r ws h (c_Reader__take_value [.loc r] h) o) : Ends r ws h (c_G2 (n + 1) 0 [.loc r, .str "value"] h) o :=
  Ends.ret (sl := [some (.loc r), some (.str "value")]) rfl (fun h' e1 => (seqN (ifN (kind_no n_vn) rfl)).trans (seqX (ifY kind_yes (retX ((mth a rfl rfl rfl).trans e1)))))
    (fun v h' e1 => (seqN (ifN (kind_no n_vn) rfl)).trans (seqR (ifY kind_yes (retO ((mth a rfl rfl rfl).trans e1))))) e
theorem part_told (a : At r ws q h) (e : Ends r ws h (c_G2 n 3 [.loc r] h) o) : Ends r ws h (c_G2 (n + 1) 0 [.loc r, .str "told"] h) o :=
  Ends.ret (sl := [some (.loc r), some (.str "told")]) rfl (fun h' e1 => (seqN (ifN (kind_no n_tn) rfl)).trans ((seqN (ifN (kind_no n_tv) rfl)).trans (seqX (ifY kind_yes (retX ((mth a rfl rfl rfl).trans e1))))))
    (fun v h' e1 => (seqN (ifN (kind_no n_tn) rfl)).trans ((seqN (ifN (kind_no n_tv) rfl)).trans (seqR (ifY kind_yes (retO ((mth a rfl rfl rfl).trans e1)))))) e
theorem part_source (a : At r ws q h) (e : Ends r ws h (c_Reader__take_source [.loc r] h) o) : Ends r ws h (c_G2 (n + 1) 0 [.loc r, .str "source"] h) o :=
  Ends.ret (sl := [some (.loc r), some (.str "source")]) rfl (fun h' e1 => (seqN (ifN (kind_no n_sn) rfl)).trans ((seqN (ifN (kind_no n_sv) rfl)).trans ((seqN (ifN (kind_no n_st) rfl)).trans (retX (ifeY kind_yes ((mth a rfl rfl rfl).trans e1))))))
    (fun v h' e1 => (seqN (ifN (kind_no n_sn) rfl)).trans ((seqN (ifN (kind_no n_sv) rfl)).trans ((seqN (ifN (kind_no n_st) rfl)).trans (retO (ifeY kind_yes ((mth a rfl rfl rfl).trans e1)))))) e
end
end Rdr

set_option Elab.async false
set_option linter.all false
set_option maxRecDepth 100000
set_option maxHeartbeats 4000000
set_option autoImplicit false
/-! The reader: values, conditions. -/
namespace Rdr
open PySem PySem.Spec PyProof.Rows L2 Bo
def eqL : List Str := ["=", " "]
def inL : List Str := ["in", " "]
def spL : List Str := [" "]
def valuesP (ws : List Str) (p : Nat) : Option (List Str × Nat) := (skipP ws opL p).bind fun q => (partsP ws (valueP ws) q).bind fun (xs, q1) => (skipP ws clL q1).map fun q2 => (xs, q2)
section
variable {ws : List Str} {r p : Nat} {h : Hc}
theorem take_values (hwl : ws.length ≤ 19000) (hw : ∀ w ∈ ws, w.length ≤ sizeLine) (hs : ∀ w ∈ ws, PyData.strOk w = true) (a : At r ws p h) (hr : r < h.next) : Ends r ws h (c_Reader__take_values [.loc r] h) ((valuesP ws p).map fun x => (.tup (x.1.map D.str), x.2)) := by
  have s1 := skip (l := opL) a (by decide)
  unfold valuesP
  cases y : skipP ws opL p with
  | none =>
    rw [y] at s1
    obtain ⟨h1, p1, e1, a1, m1⟩ := s1
    exact ⟨h1, p1, fnX (sl' := [some (.loc r), none]) rfl (seqX (exX ((mth a rfl rfl rfl).trans e1))), a1, m1⟩
  | some q =>
    rw [y] at s1
    obtain ⟨h1, e1, a1, m1⟩ := s1
    have r1 : r < h1.next := Nat.lt_of_lt_of_le hr m1.nx
    have t1 := exO ((mth (m := "skip") (cl := c_Reader__skip) (fs := kA (cE (.str "(")) (nA)) (sl := [some (.loc r), none]) a rfl rfl rfl).trans e1)
    have tp := take_parts (f := D.str) (one := valueP ws) (n := 19) (kd := .str "value") hwl hs value_mono (fun q h a hn => part_value a (take_value a hw)) a1 r1
    show Ends r ws h _ (((partsP ws (valueP ws) q).bind fun (xs, q1) => (skipP ws clL q1).map fun q2 => (xs, q2)).map fun x => (.tup (x.1.map D.str), x.2))
    cases z : partsP ws (valueP ws) q with
    | none =>
      rw [z] at tp
      obtain ⟨h2, p2, e2, a2, m2⟩ := tp
      exact ⟨h2, p2, fnX (sl' := [some (.loc r), none]) rfl ((seqN t1).trans (seqX (asgX ((mth a1 rfl rfl rfl).trans e2)))), a2, m1.trans m2⟩
    | some xq =>
      obtain ⟨xs, q1⟩ := xq
      rw [z] at tp
      obtain ⟨h2, e2, a2, m2⟩ := tp
      have t2 : asgS 1 (mthE 2 "take_parts" (c_G2 20 1) (vE 0) (kA (cE (.str "value")) (nA))) [some (.loc r), none] h1 = .nx [some (.loc r), some (.tup (xs.map D.str))] h2 := asgO ((mth a1 rfl rfl rfl).trans e2)
      have s3 := skip (l := clL) a2 (by decide)
      show Ends r ws h _ (((skipP ws clL q1).map fun q2 => (xs, q2)).map fun x => (.tup (x.1.map D.str), x.2))
      cases w : skipP ws clL q1 with
      | none =>
        rw [w] at s3
        obtain ⟨h3, p3, e3, a3, m3⟩ := s3
        exact ⟨h3, p3, fnX (sl' := [some (.loc r), some (.tup (xs.map D.str))]) rfl ((seqN t1).trans ((seqN t2).trans (seqX (exX ((mth a2 rfl rfl rfl).trans e3))))), a3, (m1.trans m2).trans m3⟩
      | some q2 =>
        rw [w] at s3
        obtain ⟨h3, e3, a3, m3⟩ := s3
        exact ⟨h3, fnO rfl ((seqN t1).trans ((seqN t2).trans ((seqN (exO ((mth a2 rfl rfl rfl).trans e3))).trans (retO rfl)))), a3, (m1.trans m2).trans m3⟩
end
end Rdr

set_option Elab.async false
set_option linter.all false
set_option maxRecDepth 100000
set_option maxHeartbeats 4000000
set_option autoImplicit false
/-! The reader: conditions. -/
namespace Rdr
open PySem PySem.Spec PyProof.Rows L2 Bo
def askP (ws : List Str) (p : Nat) : Option (D × Nat) := (colP ws p).bind fun (c, q) => (skipP ws spL q).bind fun q1 =>
  if comesB ws eqL q1 then (colP ws (comesN ws eqL q1)).map fun (c2, q2) => (.tup [.str "equal", colD c, colD c2], q2)
  else (skipP ws inL q1).bind fun q2 => (valuesP ws q2).map fun (vs, q3) => (.tup [.str "in", colD c, .tup (vs.map D.str)], q3)
section
variable {ws : List Str} {r p : Nat} {h : Hc}
theorem take_condition (hwl : ws.length ≤ 19000) (hw : ∀ w ∈ ws, w.length ≤ sizeLine) (hs : ∀ w ∈ ws, PyData.strOk w = true) (a : At r ws p h) (hr : r < h.next) : Ends r ws h (c_Reader__take_condition [.loc r] h) (askP ws p) := by
  have cl := take_column a hw hs
  unfold askP
  cases y : colP ws p with
  | none =>
    rw [y] at cl
    obtain ⟨h1, p1, e1, a1, m1⟩ := cl
    exact ⟨h1, p1, fnX (sl' := [some (.loc r), none]) rfl (seqX (asgX ((mth a rfl rfl rfl).trans e1))), a1, m1⟩
  | some cq =>
    obtain ⟨c, q⟩ := cq
    rw [y] at cl
    obtain ⟨h1, e1, a1, m1⟩ := cl
    have t1 : asgS 1 (mthE 2 "take_column" c_Reader__take_column (vE 0) nA) [some (.loc r), none] h = .nx [some (.loc r), some (colD c)] h1 := asgO ((mth a rfl rfl rfl).trans e1)
    have sk := skip (l := spL) a1 (by decide)
    show Ends r ws h _ ((skipP ws spL q).bind _)
    cases z : skipP ws spL q with
    | none =>
      rw [z] at sk
      obtain ⟨h2, p2, e2, a2, m2⟩ := sk
      exact ⟨h2, p2, fnX (sl' := [some (.loc r), some (colD c)]) rfl ((seqN t1).trans (seqX (exX ((mth a1 rfl rfl rfl).trans e2)))), a2, m1.trans m2⟩
    | some q1 =>
      rw [z] at sk
      obtain ⟨h2, e2, a2, m2⟩ := sk
      have t2 := exO ((mth (m := "skip") (cl := c_Reader__skip) (fs := kA (cE (.str " ")) (nA)) (sl := [some (.loc r), some (colD c)]) a1 rfl rfl rfl).trans e2)
      obtain ⟨h3, e3, a3, m3⟩ := comes (l := eqL) a2 (by decide) hs (lit_ok (by decide +kernel))
      have t3 := bO ((mth (m := "comes") (cl := c_Reader__comes) (fs := kA (cE (.str "=")) (kA (cE (.str " ")) (nA))) (sl := [some (.loc r), some (colD c)]) a2 rfl rfl rfl).trans e3)
      have mm := (m1.trans m2).trans m3
      show Ends r ws h _ (if comesB ws eqL q1 then _ else _)
      cases w : comesB ws eqL q1 with
      | true =>
        rw [w] at t3
        have c2 := take_column a3 hw hs
        show Ends r ws h _ ((colP ws (comesN ws eqL q1)).map fun (c2, q2) => (.tup [.str "equal", colD c, colD c2], q2))
        cases u : colP ws (comesN ws eqL q1) with
        | none =>
          rw [u] at c2
          obtain ⟨h4, p4, e4, a4, m4⟩ := c2
          exact ⟨h4, p4, fnX (sl' := [some (.loc r), some (colD c)]) rfl ((seqN t1).trans ((seqN t2).trans (seqX (ifY t3 (retX (tupX (kX2 (a := .str "equal") (hc1 := h3) rfl (kX2 (a := colD c) (hc1 := h3) rfl (kX1 ((mth a3 rfl rfl rfl).trans e4)))))))))), a4, mm.trans m4⟩
        | some dq =>
          obtain ⟨d, q2⟩ := dq
          rw [u] at c2
          obtain ⟨h4, e4, a4, m4⟩ := c2
          exact ⟨h4, fnO rfl ((seqN t1).trans ((seqN t2).trans (seqR (ifY t3 (retO (tupO (as := [.str "equal", colD c, colD d]) (kO (hc1 := h3) rfl (kO (hc1 := h3) rfl (k1 ((mth a3 rfl rfl rfl).trans e4)))) (by simp))))))), a4, mm.trans m4⟩
      | false =>
        rw [w] at t3
        have cn : comesN ws eqL q1 = q1 := by rw [comesN, w]; rfl
        rw [cn] at a3
        have s4 := skip (l := inL) a3 (by decide)
        show Ends r ws h _ ((skipP ws inL q1).bind fun q2 => (valuesP ws q2).map fun (vs, q3) => (.tup [.str "in", colD c, .tup (vs.map D.str)], q3))
        cases u : skipP ws inL q1 with
        | none =>
          rw [u] at s4
          obtain ⟨h4, p4, e4, a4, m4⟩ := s4
          exact ⟨h4, p4, fnX (sl' := [some (.loc r), some (colD c)]) rfl ((seqN t1).trans ((seqN t2).trans ((seqN (ifN t3 rfl)).trans (seqX (exX ((mth a3 rfl rfl rfl).trans e4)))))), a4, mm.trans m4⟩
        | some q2 =>
          rw [u] at s4
          obtain ⟨h4, e4, a4, m4⟩ := s4
          have t4 := exO ((mth (m := "skip") (cl := c_Reader__skip) (fs := kA (cE (.str "in")) (kA (cE (.str " ")) (nA))) (sl := [some (.loc r), some (colD c)]) a3 rfl rfl rfl).trans e4)
          have r4 : r < h4.next := Nat.lt_of_lt_of_le hr (mm.trans m4).nx
          have v := take_values hwl hw hs a4 r4
          show Ends r ws h _ ((valuesP ws q2).map fun (vs, q3) => (.tup [.str "in", colD c, .tup (vs.map D.str)], q3))
          cases x : valuesP ws q2 with
          | none =>
            rw [x] at v
            obtain ⟨h5, p5, e5, a5, m5⟩ := v
            exact ⟨h5, p5, fnX (sl' := [some (.loc r), some (colD c)]) rfl ((seqN t1).trans ((seqN t2).trans ((seqN (ifN t3 rfl)).trans ((seqN t4).trans (retX (tupX (kX2 (a := .str "in") (hc1 := h4) rfl (kX2 (a := colD c) (hc1 := h4) rfl (kX1 ((mth a4 rfl rfl rfl).trans e5)))))))))), a5, (mm.trans m4).trans m5⟩
          | some vq =>
            obtain ⟨vs, q3⟩ := vq
            rw [x] at v
            obtain ⟨h5, e5, a5, m5⟩ := v
            exact ⟨h5, fnO rfl ((seqN t1).trans ((seqN t2).trans ((seqN (ifN t3 rfl)).trans ((seqN t4).trans (retO (tupO (as := [.str "in", colD c, .tup (vs.map D.str)]) (kO (hc1 := h4) rfl (kO (hc1 := h4) rfl (k1 ((mth a4 rfl rfl rfl).trans e5)))) (by simp))))))), a5, (mm.trans m4).trans m5⟩
end
end Rdr

set_option Elab.async false
set_option linter.all false
set_option maxRecDepth 100000
set_option maxHeartbeats 4000000
set_option autoImplicit false
/-! The reader: what is told. -/
namespace Rdr
open PySem PySem.Spec PyProof.Rows L2 Bo
def starL : List Str := [".", "*"]
def asL : List Str := [" ", "as", " "]
/-- is a term a column: its name -/
def plainN : D → Option Str
  | .tup [_, .str x] => some x
  | _ => none
def toldP (ws : List Str) (p : Nat) : Option (D × Nat) :=
  if (ws.drop (p + 1)).take 2 = starL then (nameP ws p).bind fun (x, q) => (skipP ws starL q).map fun q1 => (.tup [.str "star", .str x], q1)
  else (termP ws 3 p).bind fun (t, q) => match plainN t with
    | some x => if comesB ws asL q then (nameP ws (comesN ws asL q)).map fun (y, q1) => (.tup [.str "column", t, .str y], q1) else some (.tup [.str "column", t, .str x], q)
    | none => (skipP ws asL q).bind fun q1 => (nameP ws q1).map fun (y, q2) => (.tup [.str "term", t, .str y], q2)
/-- what a term is -/
inductive TmK : D → Prop
  | val (x : Str) : TmK (.str x)
  | col (c : Option Str × Str) : TmK (colD c)
  | call (c : Option Str × Str) (ts : List D) : TmK (callD c ts)
theorem term_kind {ws : List Str} : ∀ (d q : Nat) (x : D) (q' : Nat), termP ws d q = some (x, q') → TmK x
  | 0, q, x, q', h => by
    rw [termP] at h
    split at h
    · obtain ⟨⟨y, q1⟩, h1, h2⟩ := Option.map_eq_some_iff.mp h
      cases h2
      exact .val _
    · obtain ⟨⟨y, q1⟩, h1, h2⟩ := Option.map_eq_some_iff.mp h
      cases h2
      exact .col _
  | d + 1, q, x, q', h => by
    rw [termP] at h
    split at h
    · obtain ⟨⟨y, q1⟩, h1, h2⟩ := Option.map_eq_some_iff.mp h
      cases h2
      exact .val _
    · obtain ⟨⟨y, q1⟩, h1, h2⟩ := Option.bind_eq_some_iff.mp h
      dsimp only at h2
      split at h2
      · obtain ⟨⟨ts, q2⟩, h3, h4⟩ := Option.bind_eq_some_iff.mp h2
        obtain ⟨q3, h5, h6⟩ := Option.map_eq_some_iff.mp h4
        cases h6
        exact .call _ _
      · cases h2; exact .col _
theorem plain_test {t : D} {h : Hc} {sl : Sl} (k : TmK t) (e : sl[2]? = some (some t)) : andE (unE (isiD .tup) (vE 2)) (opE eqO (blE lenD (kA (vE 2) (nA))) (cE (.int 2))) sl h = .ok (.bl (plainN t).isSome) h := by
  cases k with
  | val x => exact andEF (unO (vO e) rfl)
  | col c => exact andEY (unO (vO e) rfl) (opO (blO (k1 (vO e)) rfl) (b := .int 2) rfl rfl)
  | call c ts =>
    obtain ⟨l, x⟩ := c
    cases l with
    | none => exact andEY (unO (vO e) rfl) (opO (blO (k1 (vO e)) rfl) (b := .int 2) rfl rfl)
    | some l => exact andEY (unO (vO e) rfl) (opO (blO (k1 (vO e)) rfl) (b := .int 2) rfl rfl)
end Rdr

set_option Elab.async false
set_option linter.all false
set_option maxRecDepth 100000
set_option maxHeartbeats 4000000
set_option autoImplicit false
/-! The reader: take_told. -/
namespace Rdr
open PySem PySem.Spec PyProof.Rows L2 Bo
section
variable {ws : List Str} {r p : Nat} {h : Hc}
theorem plain_ix {t : D} {x : Str} (k : TmK t) (e : plainN t = some x) : ∀ (h : Hc) (sl : Sl), sl[2]? = some (some t) → opE ixD (vE 2) (cE (.int 1)) sl h = .ok (.str x) h := by
  cases k with
  | val y => cases e
  | col c => cases e; exact fun h sl e => opO (vO e) (b := .int 1) rfl rfl
  | call c ts =>
    obtain ⟨l, y⟩ := c
    cases l <;> cases e
theorem take_told (n : Nat) (hn : 9 ≤ n) (hwl : ws.length ≤ 19000) (hw : ∀ w ∈ ws, w.length ≤ sizeLine) (hs : ∀ w ∈ ws, PyData.strOk w = true) (a : At r ws p h) (hr : r < h.next) : Ends r ws h (c_G2 (n + 2) 3 [.loc r] h) (toldP ws p) := by
  have pk := peek (i := 1) (k := 2) (I := 1) (J := 3) (sl := [some (.loc r), none, none, none]) a rfl rfl rfl
  have tst : bT (opE eqO (slE (unE (fldD 2 "words") (vE 0)) (sO (opE addD (unE (fldD 2 "place") (vE 0)) (cE (.int 1)))) (sO (opE addD (unE (fldD 2 "place") (vE 0)) (cE (.int 3))))) (lstE (kA (cE (.str ".")) (kA (cE (.str "*")) (nA))))) [some (.loc r), none, none, none] h = .ok (decide ((ws.drop (p + 1)).take 2 = starL)) h :=
    bO (opO pk (b := .lst (starL.map D.str)) rfl (eq_strs (fun x hx => hs x (List.mem_of_mem_drop (List.mem_of_mem_take hx))) (lit_ok (l := starL) (by decide +kernel))))
  unfold toldP
  by_cases q : (ws.drop (p + 1)).take 2 = starL
  · rw [decide_eq_true q] at tst
    rw [if_pos q]
    have nm := take_name a hw
    cases y : nameP ws p with
    | none =>
      rw [y] at nm
      obtain ⟨h1, p1, e1, a1, m1⟩ := nm
      exact ⟨h1, p1, fnX (sl' := [some (.loc r), none, none, none]) rfl (seqX (ifY tst (seqX (asgX ((mth a rfl rfl rfl).trans e1))))), a1, m1⟩
    | some xq =>
      obtain ⟨x, q1⟩ := xq
      rw [y] at nm
      obtain ⟨h1, e1, a1, m1⟩ := nm
      have t1 : asgS 1 (mthE 2 "take_name" c_Reader__take_name (vE 0) nA) [some (.loc r), none, none, none] h = .nx [some (.loc r), some (.str x), none, none] h1 := asgO ((mth a rfl rfl rfl).trans e1)
      have sk := skip (l := starL) a1 (by decide)
      show Ends r ws h _ ((skipP ws starL q1).map fun q1 => (.tup [.str "star", .str x], q1))
      cases z : skipP ws starL q1 with
      | none =>
        rw [z] at sk
        obtain ⟨h2, p2, e2, a2, m2⟩ := sk
        exact ⟨h2, p2, fnX (sl' := [some (.loc r), some (.str x), none, none]) rfl (seqX (ifY tst ((seqN t1).trans (seqX (exX ((mth a1 rfl rfl rfl).trans e2)))))), a2, m1.trans m2⟩
      | some q2 =>
        rw [z] at sk
        obtain ⟨h2, e2, a2, m2⟩ := sk
        exact ⟨h2, fnO rfl (seqR (ifY tst ((seqN t1).trans ((seqN (exO ((mth a1 rfl rfl rfl).trans e2))).trans (retO rfl))))), a2, m1.trans m2⟩
  · rw [decide_eq_false q] at tst
    rw [if_neg q]
    have tm := take_term hwl hw hs 3 n p h (by omega) (by omega) a hr
    have go0 : ∀ {G : Sl → Hc → RS} {X : Sl → Hc → RS}, seqS (ifS (bT (opE eqO (slE (unE (fldD 2 "words") (vE 0)) (sO (opE addD (unE (fldD 2 "place") (vE 0)) (cE (.int 1)))) (sO (opE addD (unE (fldD 2 "place") (vE 0)) (cE (.int 3))))) (lstE (kA (cE (.str ".")) (kA (cE (.str "*")) (nA)))))) X (Bo.nS)) G [some (.loc r), none, none, none] h = G [some (.loc r), none, none, none] h := seqN (ifN tst rfl)
    cases y : termP ws 3 p with
    | none =>
      rw [y] at tm
      obtain ⟨h1, p1, e1, a1, m1⟩ := tm
      exact ⟨h1, p1, fnX (sl' := [some (.loc r), none, none, none]) rfl (go0.trans (seqX (asgX ((mth a rfl rfl rfl).trans e1)))), a1, m1⟩
    | some tq =>
      obtain ⟨t, q1⟩ := tq
      have tk := term_kind 3 p t q1 y
      rw [y] at tm
      obtain ⟨h1, e1, a1, m1⟩ := tm
      have t1 : asgS 2 (mthE 2 "take_term" (c_G2 (n + 1) 2) (vE 0) (kA (cE (.int 3)) (nA))) [some (.loc r), none, none, none] h = .nx [some (.loc r), none, some t, none] h1 := asgO ((mth a rfl rfl rfl).trans e1)
      have t2 : asgS 3 (andE (unE (isiD .tup) (vE 2)) (opE eqO (blE lenD (kA (vE 2) (nA))) (cE (.int 2)))) [some (.loc r), none, some t, none] h1 = .nx [some (.loc r), none, some t, some (.bl (plainN t).isSome)] h1 := asgO (plain_test tk rfl)
      show Ends r ws h _ (match plainN t with
        | some x => if comesB ws asL q1 then (nameP ws (comesN ws asL q1)).map fun (y, q1) => (.tup [.str "column", t, .str y], q1) else some (.tup [.str "column", t, .str x], q1)
        | none => (skipP ws asL q1).bind fun q1 => (nameP ws q1).map fun (y, q2) => (.tup [.str "term", t, .str y], q2))
      cases u : plainN t with
      | some x =>
        have ix := plain_ix tk u
        rw [u] at t2
        obtain ⟨h2, e2, a2, m2⟩ := comes (l := asL) a1 (by decide) hs (lit_ok (by decide +kernel))
        have cm : bT (mthE 2 "comes" c_Reader__comes (vE 0) (kA (cE (.str " ")) (kA (cE (.str "as")) (kA (cE (.str " ")) (nA))))) [some (.loc r), none, some t, some (.bl true)] h1 = .ok (comesB ws asL q1) h2 := bO ((mth a1 rfl rfl rfl).trans e2)
        show Ends r ws h _ (if comesB ws asL q1 then _ else _)
        cases z : comesB ws asL q1 with
        | false =>
          rw [z] at cm
          have cn : comesN ws asL q1 = q1 := by rw [comesN, z]; rfl
          rw [cn] at a2
          exact ⟨h2, fnO rfl (go0.trans ((seqN t1).trans ((seqN t2).trans (seqR (ifY (andY (hc1 := h1) (bO rfl) (nTO (b := false) cm)) (retO (tupO (as := [.str "column", t, .str x]) (kO (hc1 := h2) rfl (kO (hc1 := h2) rfl (k1 (ix h2 _ rfl)))) (by simp)))))))), a2, m1.trans m2⟩
        | true =>
          rw [z] at cm
          have g1 : ∀ {X G : Sl → Hc → RS}, seqS (ifS (andT (bT (vE 3)) (nT (bT (mthE 2 "comes" c_Reader__comes (vE 0) (kA (cE (.str " ")) (kA (cE (.str "as")) (kA (cE (.str " ")) (nA)))))))) X (Bo.nS)) G [some (.loc r), none, some t, some (.bl true)] h1 = G [some (.loc r), none, some t, some (.bl true)] h2 := seqN (ifN (andY (hc1 := h1) (bO rfl) (nTO (b := true) cm)) rfl)
          have g2 : ∀ {X G : Sl → Hc → RS}, seqS (ifS (nT (bT (vE 3))) X (Bo.nS)) G [some (.loc r), none, some t, some (.bl true)] h2 = G [some (.loc r), none, some t, some (.bl true)] h2 := seqN (ifN (nTO (b := true) (bO rfl)) rfl)
          have nm := take_name a2 hw
          show Ends r ws h _ ((nameP ws (comesN ws asL q1)).map fun (y, q1) => (.tup [.str "column", t, .str y], q1))
          cases v : nameP ws (comesN ws asL q1) with
          | none =>
            rw [v] at nm
            obtain ⟨h3, p3, e3, a3, m3⟩ := nm
            exact ⟨h3, p3, fnX (sl' := [some (.loc r), none, some t, some (.bl true)]) rfl (go0.trans ((seqN t1).trans ((seqN t2).trans (g1.trans (g2.trans (retX (tupX (kX2 (a := .str "column") (hc1 := h2) rfl (kX2 (a := t) (hc1 := h2) rfl (kX1 ((mth a2 rfl rfl rfl).trans e3))))))))))), a3, (m1.trans m2).trans m3⟩
          | some yq =>
            obtain ⟨y2, q3⟩ := yq
            rw [v] at nm
            obtain ⟨h3, e3, a3, m3⟩ := nm
            exact ⟨h3, fnO rfl (go0.trans ((seqN t1).trans ((seqN t2).trans (g1.trans (g2.trans (retO (tupO (as := [.str "column", t, .str y2]) (kO (hc1 := h2) rfl (kO (hc1 := h2) rfl (k1 ((mth a2 rfl rfl rfl).trans e3)))) (by simp)))))))), a3, (m1.trans m2).trans m3⟩
      | none =>
        rw [u] at t2
        have g1 : ∀ {X G : Sl → Hc → RS}, seqS (ifS (andT (bT (vE 3)) (nT (bT (mthE 2 "comes" c_Reader__comes (vE 0) (kA (cE (.str " ")) (kA (cE (.str "as")) (kA (cE (.str " ")) (nA)))))))) X (Bo.nS)) G [some (.loc r), none, some t, some (.bl false)] h1 = G [some (.loc r), none, some t, some (.bl false)] h1 := seqN (ifN (andF (bO rfl)) rfl)
        have sk := skip (l := asL) a1 (by decide)
        show Ends r ws h _ ((skipP ws asL q1).bind fun q1 => (nameP ws q1).map fun (y, q2) => (.tup [.str "term", t, .str y], q2))
        cases z : skipP ws asL q1 with
        | none =>
          rw [z] at sk
          obtain ⟨h2, p2, e2, a2, m2⟩ := sk
          exact ⟨h2, p2, fnX (sl' := [some (.loc r), none, some t, some (.bl false)]) rfl (go0.trans ((seqN t1).trans ((seqN t2).trans (g1.trans (seqX (ifY (nTO (b := false) (bO rfl)) (exX ((mth a1 rfl rfl rfl).trans e2)))))))), a2, m1.trans m2⟩
        | some q2 =>
          rw [z] at sk
          obtain ⟨h2, e2, a2, m2⟩ := sk
          have g2 : ∀ {G : Sl → Hc → RS}, seqS (ifS (nT (bT (vE 3))) (exS (mthE 2 "skip" c_Reader__skip (vE 0) (kA (cE (.str " ")) (kA (cE (.str "as")) (kA (cE (.str " ")) (nA)))))) (Bo.nS)) G [some (.loc r), none, some t, some (.bl false)] h1 = G [some (.loc r), none, some t, some (.bl false)] h2 := seqN (ifY (nTO (b := false) (bO rfl)) (exO ((mth a1 rfl rfl rfl).trans e2)))
          have nm := take_name a2 hw
          show Ends r ws h _ ((nameP ws q2).map fun (y, q2) => (.tup [.str "term", t, .str y], q2))
          cases v : nameP ws q2 with
          | none =>
            rw [v] at nm
            obtain ⟨h3, p3, e3, a3, m3⟩ := nm
            exact ⟨h3, p3, fnX (sl' := [some (.loc r), none, some t, some (.bl false)]) rfl (go0.trans ((seqN t1).trans ((seqN t2).trans (g1.trans (g2.trans (retX (tupX (kX2 (a := .str "term") (hc1 := h2) rfl (kX2 (a := t) (hc1 := h2) rfl (kX1 ((mth a2 rfl rfl rfl).trans e3))))))))))), a3, (m1.trans m2).trans m3⟩
          | some yq =>
            obtain ⟨y2, q3⟩ := yq
            rw [v] at nm
            obtain ⟨h3, e3, a3, m3⟩ := nm
            exact ⟨h3, fnO rfl (go0.trans ((seqN t1).trans ((seqN t2).trans (g1.trans (g2.trans (retO (tupO (as := [.str "term", t, .str y2]) (kO (hc1 := h2) rfl (kO (hc1 := h2) rfl (k1 ((mth a2 rfl rfl rfl).trans e3)))) (by simp)))))))), a3, (m1.trans m2).trans m3⟩
end
end Rdr

set_option Elab.async false
set_option linter.all false
set_option maxRecDepth 100000
set_option maxHeartbeats 4000000
set_option autoImplicit false
/-! The reader goes on, never back. -/
namespace Rdr
open PySem PySem.Spec PyProof.Rows L2 Bo
variable {ws : List Str}
theorem told_mono : ∀ q x q', toldP ws q = some (x, q') → q ≤ q' := fun q x q' h => by
  unfold toldP at h
  split at h
  · obtain ⟨⟨y, q1⟩, h1, h2⟩ := Option.bind_eq_some_iff.mp h
    obtain ⟨q2, h3, h4⟩ := Option.map_eq_some_iff.mp h2
    cases h4
    have := name_mono _ _ _ h1
    have := skip_mono _ _ _ h3
    omega
  · obtain ⟨⟨t, q1⟩, h1, h2⟩ := Option.bind_eq_some_iff.mp h
    have m1 := term_mono _ _ _ _ h1
    dsimp only at h2
    split at h2
    · split at h2
      · obtain ⟨⟨y, q2⟩, h3, h4⟩ := Option.map_eq_some_iff.mp h2
        cases h4
        have := name_mono _ _ _ h3
        have := comesN_le (ws := ws) (l := asL) (q := q1)
        omega
      · cases h2; exact m1
    · obtain ⟨q2, h3, h4⟩ := Option.bind_eq_some_iff.mp h2
      obtain ⟨⟨y, q3⟩, h5, h6⟩ := Option.map_eq_some_iff.mp h4
      cases h6
      have := skip_mono _ _ _ h3
      have := name_mono _ _ _ h5
      omega
theorem label_mono : ∀ q x q', labelP ws q = some (x, q') → q ≤ q' := fun q x q' h => by
  unfold labelP at h
  split at h
  · cases h; exact Nat.le_refl _
  · obtain ⟨q2, h3, h4⟩ := Option.map_eq_some_iff.mp h
    cases h4
    exact skip_mono _ _ _ h3
theorem lbl_mono {c : Option Str × Str} : ∀ q x q', lblP ws c q = some (x, q') → q ≤ q' := fun q x q' h => by
  unfold lblP at h
  split at h
  · obtain ⟨⟨b, q1⟩, h1, h2⟩ := Option.bind_eq_some_iff.mp h
    have m1 := label_mono _ _ _ h1
    dsimp only at h2
    split at h2
    · have := name_mono _ _ _ h2; omega
    · cases h2; exact m1
  · cases h; exact Nat.le_refl _
theorem src_mono : ∀ q x q', srcP ws q = some (x, q') → q ≤ q' := fun q x q' h => by
  obtain ⟨⟨c, q1⟩, h1, h2⟩ := Option.bind_eq_some_iff.mp h
  obtain ⟨⟨l, q2⟩, h3, h4⟩ := Option.map_eq_some_iff.mp h2
  cases h4
  have := col_mono _ _ _ h1
  have := lbl_mono _ _ _ h3
  omega
theorem values_mono : ∀ q x q', valuesP ws q = some (x, q') → q ≤ q' := fun q x q' h => by
  obtain ⟨q1, h1, h2⟩ := Option.bind_eq_some_iff.mp h
  obtain ⟨⟨xs, q2⟩, h3, h4⟩ := Option.bind_eq_some_iff.mp h2
  obtain ⟨q3, h5, h6⟩ := Option.map_eq_some_iff.mp h4
  cases h6
  have := skip_mono _ _ _ h1
  have := parts_mono value_mono _ _ _ h3
  have := skip_mono _ _ _ h5
  omega
theorem ask_mono : ∀ q x q', askP ws q = some (x, q') → q ≤ q' := fun q x q' h => by
  obtain ⟨⟨c, q1⟩, h1, h2⟩ := Option.bind_eq_some_iff.mp h
  obtain ⟨q2, h3, h4⟩ := Option.bind_eq_some_iff.mp h2
  have m1 := col_mono _ _ _ h1
  have m2 := skip_mono _ _ _ h3
  split at h4
  · obtain ⟨⟨d, q3⟩, h5, h6⟩ := Option.map_eq_some_iff.mp h4
    cases h6
    have := col_mono _ _ _ h5
    have := comesN_le (ws := ws) (l := eqL) (q := q2)
    omega
  · obtain ⟨q3, h5, h6⟩ := Option.bind_eq_some_iff.mp h4
    obtain ⟨⟨vs, q4⟩, h7, h8⟩ := Option.map_eq_some_iff.mp h6
    cases h8
    have := skip_mono _ _ _ h5
    have := values_mono _ _ _ h7
    omega
end Rdr

set_option Elab.async false
set_option linter.all false
set_option maxRecDepth 100000
set_option maxHeartbeats 4000000
set_option autoImplicit false
/-! The reader: the conditions of a statement. -/
namespace Rdr
open PySem PySem.Spec PyProof.Rows L2 Bo
def selL : List Str := ["select", " "]
def disL : List Str := ["distinct", " "]
def froL : List Str := [" ", "from", " "]
def whL : List Str := [" ", "where", " "]
def anL : List Str := [" ", "and", " "]
def asksP (ws : List Str) (q : Nat) : Option (List D × Nat) := if comesB ws whL q then (askP ws (comesN ws whL q)).bind fun (c, q1) => (moreP ws anL (askP ws) 20000 q1).map fun (cs, q2) => (c :: cs, q2) else some ([], q)
def stmP (ws : List Str) (p : Nat) : Option (D × Nat) := (skipP ws selL p).bind fun q => (partsP ws (toldP ws) (comesN ws disL q)).bind fun (ts, q1) => (skipP ws froL q1).bind fun q2 => (partsP ws (srcP ws) q2).bind fun (ss, q3) =>
  (asksP ws q3).map fun (cs, q4) => (.tup [.bl (comesB ws disL q), .tup ts, .tup (ss.map srcD), .tup cs], q4)
def asksB : Sl → Hc → RS := ifS (bT (mthE 2 "comes" c_Reader__comes (vE 0) (kA (cE (.str " ")) (kA (cE (.str "where")) (kA (cE (.str " ")) (nA)))))) (seqS (exS (mtE appD (vE 4) (kA (mthE 2 "take_condition" c_Reader__take_condition (vE 0) nA) (nA))))
    (whileS (bT (mthE 2 "comes" c_Reader__comes (vE 0) (kA (cE (.str " ")) (kA (cE (.str "and")) (kA (cE (.str " ")) (nA)))))) (exS (mtE appD (vE 4) (kA (mthE 2 "take_condition" c_Reader__take_condition (vE 0) nA) (nA)))) 20000)) (nS)
section
variable {ws : List Str} {r p l : Nat} {h h0 : Hc} {x1 x2 x3 : Option D}
theorem asks (hwl : ws.length ≤ 19000) (hw : ∀ w ∈ ws, w.length ≤ sizeLine) (hs : ∀ w ∈ ws, PyData.strOk w = true) (a : At r ws p h) (hrl : r < l) (hl0 : h0.next ≤ l) (hn : l < h.next) (hg : h.get l = some (.lst [])) (m0 : Mv r h0 h) :
    (∃ cs q h', asksP ws p = some (cs, q) ∧ asksB [some (.loc r), x1, x2, x3, some (.loc l)] h = .nx [some (.loc r), x1, x2, x3, some (.loc l)] h' ∧ At r ws q h' ∧ h'.get l = some (.lst cs) ∧ Mv r h0 h') ∨
    (∃ q h', asksP ws p = none ∧ asksB [some (.loc r), x1, x2, x3, some (.loc l)] h = .exc 1 [some (.loc r), x1, x2, x3, some (.loc l)] h' ∧ At r ws q h' ∧ Mv r h0 h') := by
  obtain ⟨h1, e1, a1, m1⟩ := comes (l := whL) a (by decide) hs (lit_ok (by decide +kernel))
  have t1 := bO ((mth (m := "comes") (cl := c_Reader__comes) (fs := kA (cE (.str " ")) (kA (cE (.str "where")) (kA (cE (.str " ")) (nA)))) (sl := [some (.loc r), x1, x2, x3, some (.loc l)]) a rfl rfl rfl).trans e1)
  have g1 : h1.get l = some (.lst []) := by rw [m1.keep l hn (by omega)]; exact hg
  have n1 : l < h1.next := Nat.lt_of_lt_of_le hn m1.nx
  cases z : comesB ws whL p with
  | false =>
    rw [z] at t1
    have cn : comesN ws whL p = p := by rw [comesN, z]; rfl
    rw [cn] at a1
    exact .inl ⟨[], p, h1, by rw [asksP, if_neg (by rw [z]; decide)], ifN t1 rfl, a1, g1, m0.trans m1⟩
  | true =>
    rw [z] at t1
    have ap : asksP ws p = (askP ws (comesN ws whL p)).bind fun (c, q1) => (moreP ws anL (askP ws) 20000 q1).map fun (cs, q2) => (c :: cs, q2) := by rw [asksP, if_pos z]
    have tc := take_condition hwl hw hs a1 (by omega)
    cases y : askP ws (comesN ws whL p) with
    | none =>
      rw [y] at tc
      obtain ⟨h2, p2, e2, a2, m2⟩ := tc
      refine .inr ⟨p2, h2, by rw [ap, y]; rfl, ifY t1 (seqX (exX ?_)), a2, (m0.trans m1).trans m2⟩
      unfold mtE
      rw [vO rfl]
      simp only [Res.bind, loc_of g1, if_true, kX1 (fs := nA) ((mth (m := "take_condition") (cl := c_Reader__take_condition) (fs := nA) (sl := [some (.loc r), x1, x2, x3, some (.loc l)]) a1 rfl rfl rfl).trans e2)]
    | some cq =>
      obtain ⟨c, q1⟩ := cq
      rw [y] at tc
      obtain ⟨h2, e2, a2, m2⟩ := tc
      have g2 : h2.get l = some (.lst []) := by rw [m2.keep l n1 (by omega)]; exact g1
      have n2 : l < h2.next := Nat.lt_of_lt_of_le n1 m2.nx
      have ea : exS (mtE appD (vE 4) (kA (mthE 2 "take_condition" c_Reader__take_condition (vE 0) nA) (nA))) [some (.loc r), x1, x2, x3, some (.loc l)] h1 = .nx [some (.loc r), x1, x2, x3, some (.loc l)] (h2.set l (.lst ([] ++ [c]))) := exO (mtO (d := .loc l) rfl (loc_of g1) (k1 ((mth a1 rfl rfl rfl).trans e2)) (app_of g2 (by simp)))
      have idm : ∀ o : Option (D × Nat), o.map (fun x => ((fun d : D => d) x.1, x.2)) = o := fun o => by cases o <;> rfl
      rcases many (f := fun d : D => d) (sep := anL) (one := askP ws) (it := mthE 2 "take_condition" c_Reader__take_condition (vE 0) nA) (fsep := kA (cE (.str " ")) (kA (cE (.str "and")) (kA (cE (.str " ")) (nA)))) (sl := [some (.loc r), x1, x2, x3, some (.loc l)]) (i := 4) (l := l) (r := r) (h0 := h0) (ws := ws) rfl rfl hrl hl0 (fun _ => rfl) (by decide) (by decide) hs (lit_ok (by decide +kernel)) ask_mono
        (fun q h' a' hn' => by rw [mth a' rfl rfl rfl, idm]; exact take_condition hwl hw hs a' hn') 20000 q1 (h2.set l (.lst ([] ++ [c]))) ([] ++ [c]) ((get_set_ne (by omega)).trans a2) n2 (get_set_self g2) (mv_setl ((m0.trans m1).trans m2) hl0 hrl) (by omega) (by omega) (by simp) with ⟨xs, q', h', k1', k2, k3, k4, k5, k6⟩ | ⟨q', h', k1', k2, k3, k4⟩
      · refine .inl ⟨c :: xs, q', h', ?_, ifY t1 ((seqN ea).trans k2), k3, ?_, k5⟩
        · rw [ap, y]
          show (moreP ws anL (askP ws) 20000 q1).map (fun (cs, q2) => (c :: cs, q2)) = _
          rw [k1']
          rfl
        · rw [k4, List.map_id' xs]
          rfl
      · refine .inr ⟨q', h', ?_, ifY t1 ((seqN ea).trans k2), k3, k4⟩
        rw [ap, y]
        show (moreP ws anL (askP ws) 20000 q1).map (fun (cs, q2) => (c :: cs, q2)) = _
        rw [k1']
        rfl
end
end Rdr

set_option Elab.async false
set_option linter.all false
set_option maxRecDepth 100000
set_option maxHeartbeats 4000000
set_option autoImplicit false
/-! The reader: a statement. -/
namespace Rdr
open PySem PySem.Spec PyProof.Rows L2 Bo
theorem asgGX {ft : D → Sl → Option Sl} {f : Sl → Hc → Res D} {sl : Sl} {hc h' : Hc} {c : Nat} (e : f sl hc = .exc c h') : asG ft f sl hc = .exc c sl h' := by
  unfold asG
  rw [e]
  rfl
section
variable {ws : List Str} {r p : Nat} {h : Hc}
theorem take_statement (hwl : ws.length ≤ 19000) (hw : ∀ w ∈ ws, w.length ≤ sizeLine) (hs : ∀ w ∈ ws, PyData.strOk w = true) (a : At r ws p h) (hr : r < h.next) : Ends r ws h (c_Reader__take_statement [.loc r] h) (stmP ws p) := by
  have s1 := skip (l := selL) a (by decide)
  unfold stmP
  cases y : skipP ws selL p with
  | none =>
    rw [y] at s1
    obtain ⟨h1, p1, e1, a1, m1⟩ := s1
    exact ⟨h1, p1, fnX (sl' := [some (.loc r), none, none, none, none]) rfl (seqX (exX ((mth a rfl rfl rfl).trans e1))), a1, m1⟩
  | some q =>
    rw [y] at s1
    obtain ⟨h1, e1, a1, m1⟩ := s1
    have t1 := exO ((mth (m := "skip") (cl := c_Reader__skip) (fs := kA (cE (.str "select")) (kA (cE (.str " ")) (nA))) (sl := [some (.loc r), none, none, none, none]) a rfl rfl rfl).trans e1)
    obtain ⟨h2, e2, a2, m2⟩ := comes (l := disL) a1 (by decide) hs (lit_ok (by decide +kernel))
    obtain ⟨b, hb⟩ : ∃ b, b = comesB ws disL q := ⟨_, rfl⟩
    rw [← hb] at e2
    have t2 : asgS 1 (mthE 2 "comes" c_Reader__comes (vE 0) (kA (cE (.str "distinct")) (kA (cE (.str " ")) (nA)))) [some (.loc r), none, none, none, none] h1 = .nx [some (.loc r), some (.bl b), none, none, none] h2 := asgO ((mth a1 rfl rfl rfl).trans e2)
    have r2 : r < h2.next := Nat.lt_of_lt_of_le hr (m1.trans m2).nx
    have idm : ∀ o : Option (D × Nat), o.map (fun x => ((fun d : D => d) x.1, x.2)) = o := fun o => by cases o <;> rfl
    have tp := take_parts (f := fun d : D => d) (one := toldP ws) (n := 19) (kd := .str "told") hwl hs told_mono (fun q h a hn => by rw [idm]; exact part_told a (take_told 16 (by omega) hwl hw hs a hn)) a2 r2
    show Ends r ws h _ ((partsP ws (toldP ws) (comesN ws disL q)).bind _)
    cases z : partsP ws (toldP ws) (comesN ws disL q) with
    | none =>
      rw [z] at tp
      obtain ⟨h3, p3, e3, a3, m3⟩ := tp
      exact ⟨h3, p3, fnX (sl' := [some (.loc r), some (.bl b), none, none, none]) rfl ((seqN t1).trans ((seqN t2).trans (seqX (asgX ((mth a2 rfl rfl rfl).trans e3))))), a3, (m1.trans m2).trans m3⟩
    | some tq =>
      obtain ⟨ts, q1⟩ := tq
      rw [z] at tp
      obtain ⟨h3, e3, a3, m3⟩ := tp
      have e3' : c_G2 20 1 [.loc r, .str "told"] h2 = .ok (.tup ts) h3 := by
        have e3'' : c_G2 (19 + 1) 1 [.loc r, .str "told"] h2 = .ok (.tup (ts.map (fun d : D => d))) h3 := e3
        rw [List.map_id' ts] at e3''
        exact e3''
      have t3 : asgS 2 (mthE 2 "take_parts" (c_G2 20 1) (vE 0) (kA (cE (.str "told")) (nA))) [some (.loc r), some (.bl b), none, none, none] h2 = .nx [some (.loc r), some (.bl b), some (.tup ts), none, none] h3 := asgO ((mth a2 rfl rfl rfl).trans e3')
      have M3 := (m1.trans m2).trans m3
      have s4 := skip (l := froL) a3 (by decide)
      show Ends r ws h _ ((skipP ws froL q1).bind _)
      cases w : skipP ws froL q1 with
      | none =>
        rw [w] at s4
        obtain ⟨h4, p4, e4, a4, m4⟩ := s4
        exact ⟨h4, p4, fnX (sl' := [some (.loc r), some (.bl b), some (.tup ts), none, none]) rfl ((seqN t1).trans ((seqN t2).trans ((seqN t3).trans (seqX (exX ((mth a3 rfl rfl rfl).trans e4)))))), a4, M3.trans m4⟩
      | some q2 =>
        rw [w] at s4
        obtain ⟨h4, e4, a4, m4⟩ := s4
        have t4 := exO ((mth (m := "skip") (cl := c_Reader__skip) (fs := kA (cE (.str " ")) (kA (cE (.str "from")) (kA (cE (.str " ")) (nA)))) (sl := [some (.loc r), some (.bl b), some (.tup ts), none, none]) a3 rfl rfl rfl).trans e4)
        have M4 := M3.trans m4
        have r4 : r < h4.next := Nat.lt_of_lt_of_le hr M4.nx
        have tp2 := take_parts (f := srcD) (one := srcP ws) (n := 19) (kd := .str "source") hwl hs src_mono (fun q h a hn => part_source a (take_source a hw hs)) a4 r4
        show Ends r ws h _ ((partsP ws (srcP ws) q2).bind _)
        cases v : partsP ws (srcP ws) q2 with
        | none =>
          rw [v] at tp2
          obtain ⟨h5, p5, e5, a5, m5⟩ := tp2
          exact ⟨h5, p5, fnX (sl' := [some (.loc r), some (.bl b), some (.tup ts), none, none]) rfl ((seqN t1).trans ((seqN t2).trans ((seqN t3).trans ((seqN t4).trans (seqX (asgGX (tupX (kX1 ((mth a4 rfl rfl rfl).trans e5))))))))), a5, M4.trans m5⟩
        | some sq =>
          obtain ⟨ss, q3⟩ := sq
          rw [v] at tp2
          obtain ⟨h5, e5, a5, m5⟩ := tp2
          have M5 := M4.trans m5
          have r5 : r < h5.next := Nat.lt_of_lt_of_le hr M5.nx
          have t5 : asG (tupG 2 (consG (nmG 3) (consG (nmG 4) (nilG)))) (tupE (kA (mthE 2 "take_parts" (c_G2 20 1) (vE 0) (kA (cE (.str "source")) (nA))) (kA (newE (nA)) (nA)))) [some (.loc r), some (.bl b), some (.tup ts), none, none] h4 = .nx [some (.loc r), some (.bl b), some (.tup ts), some (.tup (ss.map srcD)), some (.loc h5.next)] (h5.new (.lst [])) :=
            asgG (tupO (as := [.tup (ss.map srcD), .loc h5.next]) (kO ((mth a4 rfl rfl rfl).trans e5) (k1 (newO (hc1 := h5) (as := []) rfl (by simp)))) (by simp)) rfl
          have a6 : At r ws q3 (h5.new (.lst [])) := by
            show (h5.new (.lst [])).get r = _
            rw [Hc.get_new, if_neg (by omega)]
            exact a5
          show Ends r ws h _ ((asksP ws q3).map _)
          rcases asks (x1 := some (.bl b)) (x2 := some (.tup ts)) (x3 := some (.tup (ss.map srcD))) (l := h5.next) (h0 := h) hwl hw hs a6 r5 M5.nx (Nat.lt_succ_self _) (by rw [Hc.get_new, if_pos rfl]) (M5.trans (mv_new r5)) with ⟨cs, q4, h', k1', k2, k3, k4, k5⟩ | ⟨q4, h', k1', k2, k3, k4⟩
          · rw [k1', ← hb]
            exact ⟨h', fnO rfl ((seqN t1).trans ((seqN t2).trans ((seqN t3).trans ((seqN t4).trans ((seqN t5).trans ((seqN k2).trans (retO (tupO (as := [.bl b, .tup ts, .tup (ss.map srcD), .tup cs]) (kO (hc1 := h') rfl (kO (hc1 := h') rfl (kO (hc1 := h') rfl (k1 (blO (k1 rfl) (tuple_of k4)))))) (by simp))))))))), k3, k5⟩
          · rw [k1']
            exact ⟨h', q4, fnX (sl' := [some (.loc r), some (.bl b), some (.tup ts), some (.tup (ss.map srcD)), some (.loc h5.next)]) rfl ((seqN t1).trans ((seqN t2).trans ((seqN t3).trans ((seqN t4).trans ((seqN t5).trans (seqX k2)))))), k3, k4⟩
end
end Rdr

set_option Elab.async false
set_option linter.all false
set_option maxRecDepth 100000
set_option maxHeartbeats 4000000
set_option autoImplicit false
/-! The reader: finish. -/
namespace Rdr
open PySem PySem.Spec PyProof.Rows L2 Bo
theorem fnNx {F : Sl → Hc → RS} {np n : Nat} {ds : List D} {hc h' : Hc} {sl : Sl} (hl : ds.length = np) (e : F (startS n ds) hc = .nx sl h') : fnR np n F ds hc = .ok .non h' := by
  unfold fnR
  rw [if_pos hl, e]
section
variable {ws : List Str} {r p : Nat} {h : Hc}
theorem finish (a : At r ws p h) : c_Reader__finish [.loc r] h = if p = ws.length then .ok .non h else .exc 1 h := by
  have ln : blE lenD (kA (unE (fldD 2 "words") (vE 0)) (nA)) [some (.loc r)] h = .ok (.int (ws.length : Int)) h := blO (k1 (unO rfl (f_words a))) (by
    show some (D.int ((ws.map D.str).length : Int)) = _
    rw [List.length_map])
  have t : bT (opE neO (unE (fldD 2 "place") (vE 0)) (blE lenD (kA (unE (fldD 2 "words") (vE 0)) (nA)))) [some (.loc r)] h = .ok (!decide ((p : Int) = (ws.length : Int))) h := bO (opO (a := .int (p : Int)) (unO rfl (f_place a)) ln rfl)
  by_cases q : p = ws.length
  · have e : (p : Int) = (ws.length : Int) := by omega
    rw [decide_eq_true e] at t
    rw [if_pos q]
    exact fnNx (sl := [some (.loc r)]) rfl (ifN t rfl)
  · have e : ¬ (p : Int) = (ws.length : Int) := by omega
    rw [decide_eq_false e] at t
    rw [if_neg q]
    exact fnX (sl' := [some (.loc r)]) rfl (ifY t rfl)
end
end Rdr

set_option Elab.async false
set_option linter.all false
set_option maxRecDepth 100000
set_option maxHeartbeats 4000000
set_option autoImplicit false
/-! The reader: words_in. -/
namespace Rdr
open PySem PySem.Spec PyProof.Rows L2 Bo
theorem lt_one (c d : Nat) : ltS ⟨#[c]⟩ ⟨#[d]⟩ = decide (c < d) := by
  unfold ltS
  rw [decide_eq_decide]
  show [c] < [d] ↔ c < d
  rw [List.cons_lt_cons_iff]
  simp
theorem a_one : Str.ofString "a" = ⟨#[97]⟩ := by decide +kernel
theorem z_one : Str.ofString "z" = ⟨#[122]⟩ := by decide +kernel
theorem q_one : Str.ofString "'" = ⟨#[39]⟩ := by decide +kernel
def wordsL : Nat → List Nat → List (List Nat)
  | 0, _ => []
  | _ + 1, [] => []
  | n + 1, c :: cs => (c :: cs.take (if low c then (cs.takeWhile low).length else if c = 39 then (cs.takeWhile low).length + 1 else 0)) :: wordsL n (cs.drop (if low c then (cs.takeWhile low).length else if c = 39 then (cs.takeWhile low).length + 1 else 0))
def mkS (l : List Nat) : Str := ⟨l.toArray⟩
def wordsOf (x : Str) : List Str := (wordsL x.cps.toList.length x.cps.toList).map mkS
theorem words_fuel : ∀ (n m : Nat) (cs : List Nat), cs.length ≤ n → cs.length ≤ m → wordsL n cs = wordsL m cs
  | 0, 0, cs, _, _ => rfl
  | 0, m + 1, cs, h, _ => by
    have : cs = [] := List.length_eq_zero_iff.mp (by omega)
    subst this; rfl
  | n + 1, 0, cs, _, h => by
    have : cs = [] := List.length_eq_zero_iff.mp (by omega)
    subst this; rfl
  | n + 1, m + 1, [], _, _ => rfl
  | n + 1, m + 1, c :: cs, h1, h2 => by
    simp only [wordsL]
    congr 1
    apply words_fuel
    · rw [List.length_drop]; rw [List.length_cons] at h1; omega
    · rw [List.length_drop]; rw [List.length_cons] at h2; omega
theorem cutS_at {x : Str} {p k : Nat} : cutS x (some (p : Int)) (some ((p + k : Nat) : Int)) = mkS ((x.cps.toList.drop p).take k) := by
  unfold cutS mkS
  have hl : x.length = x.cps.toList.length := rfl
  rw [HT.sIx_nat, HT.sIx_nat, hl]
  congr 2
  generalize x.cps.toList = cs
  by_cases h : p ≤ cs.length
  · rw [Nat.min_eq_left h]
    by_cases h2 : p + k ≤ cs.length
    · rw [Nat.min_eq_left h2]
      congr 1
      omega
    · rw [Nat.min_eq_right (by omega)]
      rw [List.take_of_length_le (by rw [List.length_drop]; exact Nat.le_refl _), List.take_of_length_le (by rw [List.length_drop]; omega)]
  · rw [Nat.min_eq_right (by omega), Nat.min_eq_right (by omega)]
    rw [List.drop_of_length_le (Nat.le_refl _), List.drop_of_length_le (by omega)]
    simp
section
variable {hc : Hc}
theorem is_letter (c : Nat) : c_is_letter [.str ⟨#[c]⟩] hc = .ok (.bl (low c)) hc := by
  have h1 : leO hc (.str "a") (.str ⟨#[c]⟩) = some (.bl (decide (97 ≤ c))) := by
    show some (D.bl (!ltS _ _)) = _
    rw [a_one, lt_one]
    congr 2
    by_cases q : 97 ≤ c
    · rw [decide_eq_true q, decide_eq_false (by omega)]; rfl
    · rw [decide_eq_false q, decide_eq_true (by omega)]; rfl
  have h2 : leO hc (.str ⟨#[c]⟩) (.str "z") = some (.bl (decide (c ≤ 122))) := by
    show some (D.bl (!ltS _ _)) = _
    rw [z_one, lt_one]
    congr 2
    by_cases q : c ≤ 122
    · rw [decide_eq_true q, decide_eq_false (by omega)]; rfl
    · rw [decide_eq_false q, decide_eq_true (by omega)]; rfl
  unfold low
  by_cases q : 97 ≤ c
  · rw [decide_eq_true q] at h1 ⊢
    rw [Bool.true_and]
    exact fnO rfl (retO (chY (a := .str "a") (b := .str ⟨#[c]⟩) (c := .str "z") rfl rfl h1 rfl h2))
  · rw [decide_eq_false q] at h1 ⊢
    exact fnO rfl (retO (chN (a := .str "a") (b := .str ⟨#[c]⟩) rfl rfl h1))
theorem at_nat {α : Type} {l : List α} {d : α} {p : Nat} (h : p < l.length) : atI l (p : Int) = some l[p] := by
  unfold atI ixN
  rw [if_pos (by omega), if_pos (by omega)]
  simp [List.getElem?_eq_getElem h]
theorem ix_text {x : Str} {p i : Nat} {sl : Sl} (h0 : sl[0]? = some (some (.str x))) (hi : sl[i]? = some (some (.int (p : Int)))) (hl : x.length ≤ sizeLine) (hp : p < x.cps.toList.length) : opE ixD (vE 0) (vE i) sl hc = .ok (.str ⟨#[x.cps.toList[p]]⟩) hc :=
  opO (vO h0) (vO hi) (by
    show (if x.length ≤ sizeLine then (atI x.cps.toList (p : Int)).map (fun c => D.str ⟨#[c]⟩) else none) = _
    rw [if_pos hl, at_nat (d := 0) hp]
    rfl)
theorem len_text {x : Str} {sl : Sl} (h0 : sl[0]? = some (some (.str x))) (hl : x.length ≤ sizeLine) : blE lenD (kA (vE 0) (nA)) sl hc = .ok (.int (x.cps.toList.length : Int)) hc := blO (k1 (vO h0)) (by
    show (if x.length ≤ sizeLine then some (D.int (x.length : Int)) else none) = _
    rw [if_pos hl]
    rfl)
def letT : Sl → Hc → Res Bool := andT (bT (opE ltO (vE 3) (blE lenD (kA (vE 0) (nA))))) (bT (callE c_is_letter (kA (opE ixD (vE 0) (vE 3)) (nA))))
def oneS : Sl → Hc → RS := augS 3 (fun a b => a + b) (cE (.int 1))
theorem one_step {a b c : Option D} {e : Nat} : oneS [a, b, c, some (.int (e : Int))] hc = .nx [a, b, c, some (.int ((e + 1 : Nat) : Int))] hc := by
  show RS.nx [a, b, c, some (.int ((e : Int) + 1))] hc = _
  congr 1
theorem runs {x : Str} (hl : x.length ≤ sizeLine) (b c : Option D) : ∀ (n e : Nat), x.cps.toList.length < e + n → e ≤ x.cps.toList.length →
    whileS letT oneS n [some (.str x), b, c, some (.int (e : Int))] hc = .nx [some (.str x), b, c, some (.int ((e + ((x.cps.toList.drop e).takeWhile low).length : Nat) : Int))] hc
  | 0, e, h, he => absurd h (by omega)
  | n + 1, e, h, he => by
    have t1 : bT (opE ltO (vE 3) (blE lenD (kA (vE 0) (nA)))) [some (.str x), b, c, some (.int (e : Int))] hc = .ok (decide ((e : Int) < (x.cps.toList.length : Int))) hc := bO (opO (a := .int (e : Int)) rfl (len_text rfl hl) rfl)
    by_cases q : e < x.cps.toList.length
    · rw [decide_eq_true (show (e : Int) < (x.cps.toList.length : Int) by omega)] at t1
      have t2 : bT (callE c_is_letter (kA (opE ixD (vE 0) (vE 3)) (nA))) [some (.str x), b, c, some (.int (e : Int))] hc = .ok (low x.cps.toList[e]) hc := bO (callO (k1 (ix_text rfl rfl hl q)) (is_letter _))
      have t3 : letT [some (.str x), b, c, some (.int (e : Int))] hc = .ok (low x.cps.toList[e]) hc := andY t1 t2
      have dr : x.cps.toList.drop e = x.cps.toList[e] :: x.cps.toList.drop (e + 1) := List.drop_eq_getElem_cons q
      rw [dr]
      cases z : low x.cps.toList[e] with
      | false =>
        rw [z] at t3
        rw [whileS, t3, List.takeWhile_cons, if_neg (by rw [z]; decide)]
        rfl
      | true =>
        rw [z] at t3
        rw [whileS, t3]
        simp only [Res.toS, if_true, one_step]
        rw [runs hl b c n (e + 1) (by omega) (by omega), List.takeWhile_cons, if_pos z, List.length_cons]
        rw [show e + 1 + ((x.cps.toList.drop (e + 1)).takeWhile low).length = e + (((x.cps.toList.drop (e + 1)).takeWhile low).length + 1) by omega]
    · rw [decide_eq_false (show ¬ (e : Int) < (x.cps.toList.length : Int) by omega)] at t1
      have t3 : letT [some (.str x), b, c, some (.int (e : Int))] hc = .ok false hc := andF t1
      rw [whileS, t3, List.drop_of_length_le (by omega)]
      rfl
def wordB : Sl → Hc → RS := seqS (asgS 3 (opE addD (vE 2) (cE (.int 1))))
    (seqS (ifS (bT (callE c_is_letter (kA (opE ixD (vE 0) (vE 2)) (nA)))) (whileS letT oneS 20000) (ifS (bT (opE eqO (opE ixD (vE 0) (vE 2)) (cE (.str "'")))) (seqS (whileS letT oneS 20000) oneS) (nS)))
    (seqS (exS (mtE appD (vE 1) (kA (slE (vE 0) (sO (vE 2)) (sO (vE 3))) (nA))))
    (asgS 2 (vE 3))))
def wordT : Sl → Hc → Res Bool := bT (opE ltO (vE 2) (blE lenD (kA (vE 0) (nA))))
def wlen (c : Nat) (cs : List Nat) : Nat := if low c then (cs.takeWhile low).length else if c = 39 then (cs.takeWhile low).length + 1 else 0
theorem word_step {x : Str} (hx : x.cps.toList.length ≤ 19000) {l p : Nat} {s3 : Option D} {acc : List D} (hp : p < x.cps.toList.length) (hg : hc.get l = some (.lst acc)) (ha : acc.length ≤ 20000) :
    wordB [some (.str x), some (.loc l), some (.int (p : Int)), s3] hc = .nx [some (.str x), some (.loc l), some (.int ((p + 1 + wlen x.cps.toList[p] (x.cps.toList.drop (p + 1)) : Nat) : Int)), some (.int ((p + 1 + wlen x.cps.toList[p] (x.cps.toList.drop (p + 1)) : Nat) : Int))]
      (hc.set l (.lst (acc ++ [.str (mkS (x.cps.toList[p] :: (x.cps.toList.drop (p + 1)).take (wlen x.cps.toList[p] (x.cps.toList.drop (p + 1)))))]))) := by
  have hl : x.length ≤ sizeLine := by
    have : x.length = x.cps.toList.length := rfl
    rw [sizeLine_eq]; omega
  have t1 : asgS 3 (opE addD (vE 2) (cE (.int 1))) [some (.str x), some (.loc l), some (.int (p : Int)), s3] hc = .nx [some (.str x), some (.loc l), some (.int (p : Int)), some (.int ((p + 1 : Nat) : Int))] hc := asgO (opO (a := .int (p : Int)) (b := .int 1) rfl rfl (by show some (D.int _) = _; congr 2))
  have t2 : bT (callE c_is_letter (kA (opE ixD (vE 0) (vE 2)) (nA))) [some (.str x), some (.loc l), some (.int (p : Int)), some (.int ((p + 1 : Nat) : Int))] hc = .ok (low x.cps.toList[p]) hc := bO (callO (k1 (ix_text rfl rfl hl hp)) (is_letter _))
  have t3 : bT (opE eqO (opE ixD (vE 0) (vE 2)) (cE (.str "'"))) [some (.str x), some (.loc l), some (.int (p : Int)), some (.int ((p + 1 : Nat) : Int))] hc = .ok (decide (x.cps.toList[p] = 39)) hc := bO (opO (ix_text rfl rfl hl hp) (b := .str "'") rfl (by
    show some (D.bl (decide ((⟨#[x.cps.toList[p]]⟩ : Str) = Str.ofString "'"))) = _
    rw [q_one]
    congr 2
    rw [decide_eq_decide]
    constructor
    · intro h; injection h with h; injection h with h; injection h
    · intro h; rw [h]))
  have rn := runs (hc := hc) hl (some (.loc l)) (some (.int (p : Int))) 20000 (p + 1) (by omega) (by omega)
  have t4 : ifS (bT (callE c_is_letter (kA (opE ixD (vE 0) (vE 2)) (nA)))) (whileS letT oneS 20000) (ifS (bT (opE eqO (opE ixD (vE 0) (vE 2)) (cE (.str "'")))) (seqS (whileS letT oneS 20000) oneS) (nS)) [some (.str x), some (.loc l), some (.int (p : Int)), some (.int ((p + 1 : Nat) : Int))] hc =
      .nx [some (.str x), some (.loc l), some (.int (p : Int)), some (.int ((p + 1 + wlen x.cps.toList[p] (x.cps.toList.drop (p + 1)) : Nat) : Int))] hc := by
    unfold wlen
    cases z : low x.cps.toList[p] with
    | true =>
      rw [z] at t2
      rw [if_pos rfl]
      exact ifY t2 rn
    | false =>
      rw [z] at t2
      rw [if_neg (by decide)]
      by_cases y : x.cps.toList[p] = 39
      · rw [decide_eq_true y] at t3
        rw [if_pos y]
        exact ifN t2 (ifY t3 ((seqN rn).trans one_step))
      · rw [decide_eq_false y] at t3
        rw [if_neg y]
        exact ifN t2 (ifN t3 rfl)
  generalize hm : wlen x.cps.toList[p] (x.cps.toList.drop (p + 1)) = m at t4 ⊢
  have dr : x.cps.toList.drop p = x.cps.toList[p] :: x.cps.toList.drop (p + 1) := List.drop_eq_getElem_cons hp
  have ct : cutS x (some (p : Int)) (some ((p + 1 + m : Nat) : Int)) = mkS (x.cps.toList[p] :: (x.cps.toList.drop (p + 1)).take m) := by
    rw [show p + 1 + m = p + (m + 1) by omega, cutS_at, dr, List.take_succ_cons]
  have sl : slE (vE 0) (sO (vE 2)) (sO (vE 3)) [some (.str x), some (.loc l), some (.int (p : Int)), some (.int ((p + 1 + m : Nat) : Int))] hc = .ok (.str (mkS (x.cps.toList[p] :: (x.cps.toList.drop (p + 1)).take m))) hc := by
    refine slO (d := .str x) (lo := some (p : Int)) (hi := some ((p + 1 + m : Nat) : Int)) (hc2 := hc) rfl rfl rfl ?_
    show (if x.length ≤ sizeLine then some (D.str (cutS x (some (p : Int)) (some ((p + 1 + m : Nat) : Int)))) else none) = _
    rw [if_pos hl, ct]
  have ap : ∀ v, appD hc (.loc l) [v] = some (.non, hc.set l (.lst (acc ++ [v]))) := fun v => by
    have : acc.length < sizeLine := by rw [sizeLine_eq]; omega
    simp only [appD, hg, if_pos this]
  exact (seqN t1).trans ((seqN t4).trans ((seqN (exO (mtO (d := .loc l) rfl (loc_of hg) (k1 sl) (ap _)))).trans (asgO rfl)))
theorem words_loop {x : Str} (hx : x.cps.toList.length ≤ 19000) {l : Nat} : ∀ (n p f : Nat) (h : Hc) (acc : List D) (s3 : Option D), x.cps.toList.length < p + n → x.cps.toList.length ≤ p + f → h.get l = some (.lst acc) → acc.length ≤ p → p ≤ x.cps.toList.length + 1 → 1 ≤ n →
    ∃ q s4 h', whileS wordT wordB n [some (.str x), some (.loc l), some (.int (p : Int)), s3] h = .nx [some (.str x), some (.loc l), q, s4] h' ∧ h'.get l = some (.lst (acc ++ (wordsL f (x.cps.toList.drop p)).map fun w => .str (mkS w))) ∧ h'.next = h.next ∧ (∀ k, k ≠ l → h'.get k = h.get k) ∧ ∀ r, r ≤ l → h'.m.filter (fun p => decide (p.1 < r)) = h.m.filter (fun p => decide (p.1 < r))
  | 0, p, f, h, acc, s3, h1, h2, hg, ha, hp, h0 => absurd h0 (by omega)
  | n + 1, p, f, h, acc, s3, h1, h2, hg, ha, hp, h0 => by
    have hl : x.length ≤ sizeLine := by
      have : x.length = x.cps.toList.length := rfl
      rw [sizeLine_eq]; omega
    have t1 : wordT [some (.str x), some (.loc l), some (.int (p : Int)), s3] h = .ok (decide ((p : Int) < (x.cps.toList.length : Int))) h := bO (opO (a := .int (p : Int)) rfl (len_text rfl hl) rfl)
    by_cases q : p < x.cps.toList.length
    · rw [decide_eq_true (show (p : Int) < (x.cps.toList.length : Int) by omega)] at t1
      have st := word_step (hc := h) hx (s3 := s3) q hg (by omega)
      have dr : x.cps.toList.drop p = x.cps.toList[p] :: x.cps.toList.drop (p + 1) := List.drop_eq_getElem_cons q
      obtain ⟨f', rfl⟩ : ∃ f', f = f' + 1 := ⟨f - 1, by omega⟩
      have wl : wordsL (f' + 1) (x.cps.toList.drop p) = (x.cps.toList[p] :: (x.cps.toList.drop (p + 1)).take (wlen x.cps.toList[p] (x.cps.toList.drop (p + 1)))) :: wordsL f' ((x.cps.toList.drop (p + 1)).drop (wlen x.cps.toList[p] (x.cps.toList.drop (p + 1)))) := by
        rw [dr]; rfl
      have wle : wlen x.cps.toList[p] (x.cps.toList.drop (p + 1)) ≤ x.cps.toList.length - (p + 1) + 1 := by
        have : ((x.cps.toList.drop (p + 1)).takeWhile low).length ≤ (x.cps.toList.drop (p + 1)).length := (List.takeWhile_prefix _).length_le
        rw [List.length_drop] at this
        unfold wlen
        split
        · omega
        · split <;> omega
      rw [wl]
      generalize wlen x.cps.toList[p] (x.cps.toList.drop (p + 1)) = m at st wle ⊢
      rw [List.drop_drop]
      rw [whileS, t1]
      simp only [Res.toS, if_true, st]
      obtain ⟨q', s4, h', e1, e2, e3, e4, e5⟩ := words_loop hx n (p + 1 + m) f' (h.set l (.lst (acc ++ [.str (mkS (x.cps.toList[p] :: (x.cps.toList.drop (p + 1)).take m))]))) (acc ++ [.str (mkS (x.cps.toList[p] :: (x.cps.toList.drop (p + 1)).take m))]) (some (.int ((p + 1 + m : Nat) : Int))) (by omega) (by omega) (get_set_self hg) (by rw [List.length_append]; show _ + 1 ≤ _; omega) (by omega) (by omega)
      refine ⟨q', s4, h', e1, ?_, e3, fun k hk => (e4 k hk).trans (get_set_ne hk), fun r hr => (e5 r hr).trans (setM_fil hr _)⟩
      rw [e2, List.map_cons, List.append_assoc]
      rfl
    · rw [decide_eq_false (show ¬ (p : Int) < (x.cps.toList.length : Int) by omega)] at t1
      refine ⟨some (.int (p : Int)), s3, h, by rw [whileS, t1]; rfl, ?_, rfl, fun _ _ => rfl, fun _ _ => rfl⟩
      rw [hg, List.drop_of_length_le (by omega)]
      cases f <;> simp [wordsL]
/-- words_in: the words, a further number is used up -/
theorem words_in {x : Str} (hx : x.cps.toList.length ≤ 19000) : ∃ h', c_words_in [.str x] hc = .ok (.lst ((wordsOf x).map D.str)) h' ∧ h'.next = hc.next + 1 ∧ (∀ k, k < hc.next → h'.get k = hc.get k) ∧ ∀ r, r ≤ hc.next → h'.m.filter (fun p => decide (p.1 < r)) = hc.m.filter (fun p => decide (p.1 < r)) := by
  have t1 : asG (tupG 2 (consG (nmG 1) (consG (nmG 2) (nilG)))) (tupE (kA (newE (nA)) (kA (cE (.int 0)) (nA)))) [some (.str x), none, none, none] hc = .nx [some (.str x), some (.loc hc.next), some (.int 0), none] (hc.new (.lst [])) :=
    asgG (tupO (as := [.loc hc.next, .int 0]) (kO (newO (hc1 := hc) (as := []) rfl (by simp)) (k1 rfl)) (by simp)) rfl
  obtain ⟨q, s4, h', e1, e2, e3, e4, e5⟩ := words_loop hx (l := hc.next) 20000 0 x.cps.toList.length (hc.new (.lst [])) [] none (by omega) (by omega) (by rw [Hc.get_new, if_pos rfl]) (by simp) (by omega) (by omega)
  rw [List.drop_zero, List.nil_append] at e2
  have e2' : h'.get hc.next = some (.lst ((wordsOf x).map D.str)) := by
    rw [e2, wordsOf, List.map_map]
    rfl
  have fz : frzE (vE 1) [some (.str x), some (.loc hc.next), q, s4] h' = .ok (.lst ((wordsOf x).map D.str)) (h'.del hc.next) := by
    show frzR (.loc hc.next) h' = _
    simp only [frzR, e2']
  refine ⟨h'.del hc.next, fnO rfl ((seqN t1).trans ((seqN (show whileS wordT wordB 20000 [some (.str x), some (.loc hc.next), some (.int 0), none] (hc.new (.lst [])) = _ from e1)).trans (retO fz))), ?_, ?_, ?_⟩
  · show h'.next = _
    rw [e3]
    rfl
  · intro k hk
    have g1 : (h'.del hc.next).get k = h'.get k := by
      unfold Hc.del Hc.get
      generalize h'.m = m
      induction m with
      | nil => rfl
      | cons p r ih =>
        obtain ⟨a, b⟩ := p
        by_cases hA : a = hc.next
        · have : ((a, b) :: r).filter (fun p => !(p.1 == hc.next)) = r.filter (fun p => !(p.1 == hc.next)) := by simp [hA]
          dsimp only at ih ⊢
          rw [this, ih]
          have : (k == a) = false := by simp; omega
          rw [List.lookup, this]
        · have : ((a, b) :: r).filter (fun p => !(p.1 == hc.next)) = (a, b) :: r.filter (fun p => !(p.1 == hc.next)) := by simp [hA]
          dsimp only at ih ⊢
          rw [this, List.lookup, List.lookup, ih]
    rw [g1, e4 k (by omega), Hc.get_new, if_neg (by omega)]
  · intro r hr
    have g1 : (h'.del hc.next).m.filter (fun p => decide (p.1 < r)) = h'.m.filter (fun p => decide (p.1 < r)) := by
      show (h'.m.filter fun p => !(p.1 == hc.next)).filter (fun p => decide (p.1 < r)) = _
      rw [List.filter_filter]
      congr 1
      funext p
      by_cases hA : p.1 < r
      · have : (p.1 == hc.next) = false := by simp; omega
        simp [hA, this]
      · simp [hA]
    rw [g1, e5 r hr]
    have : decide (hc.next < r) = false := decide_eq_false (by omega)
    show ((hc.next, Ob.lst []) :: hc.m).filter _ = _
    rw [List.filter_cons, if_neg (by rw [this]; decide)]
end
end Rdr

set_option Elab.async false
set_option linter.all false
set_option maxRecDepth 100000
set_option maxHeartbeats 4000000
set_option autoImplicit false
/-! Forms: names, values, columns, calls of any plain data. -/
namespace Rdr
open PySem PySem.Spec PyProof.Rows L2 Bo
/-- plain data, so deep at most -/
def pdB : Nat → D → Bool
  | _, .non => true
  | _, .bl _ => true
  | _, .int _ => true
  | _, .str x => PyData.strOk x && decide (x.length ≤ 100000)
  | n + 1, .tup ds => decide (ds.length ≤ 100000) && ds.all (pdB n)
  | n + 1, .lst ds => decide (ds.length ≤ 100000) && ds.all (pdB n)
  | _, _ => false
theorem pd_str {n : Nat} {x : Str} (h : pdB n (.str x) = true) : PyData.strOk x = true ∧ x.length ≤ 100000 := by
  cases n <;> · simp only [pdB, Bool.and_eq_true, decide_eq_true_eq] at h; exact h
theorem pd_tup {n : Nat} {ds : List D} (h : pdB n (.tup ds) = true) : ∃ m, n = m + 1 ∧ ds.length ≤ 100000 ∧ ∀ d ∈ ds, pdB m d = true := by
  cases n with
  | zero => simp [pdB] at h
  | succ m =>
    simp only [pdB, Bool.and_eq_true, decide_eq_true_eq, List.all_eq_true] at h
    exact ⟨m, rfl, h⟩
theorem pd_lst {n : Nat} {ds : List D} (h : pdB n (.lst ds) = true) : ∃ m, n = m + 1 ∧ ds.length ≤ 100000 ∧ ∀ d ∈ ds, pdB m d = true := by
  cases n with
  | zero => simp [pdB] at h
  | succ m =>
    simp only [pdB, Bool.and_eq_true, decide_eq_true_eq, List.all_eq_true] at h
    exact ⟨m, rfl, h⟩
theorem pd_mono : ∀ {n m : Nat} {d : D}, pdB n d = true → n ≤ m → pdB m d = true
  | n, m, .non, _, _ => by cases m <;> rfl
  | n, m, .bl _, _, _ => by cases m <;> rfl
  | n, m, .int _, _, _ => by cases m <;> rfl
  | n, m, .str x, h, _ => by
    have := pd_str h
    cases m <;> · simp only [pdB, Bool.and_eq_true, decide_eq_true_eq]; exact this
  | n, m, .tup ds, h, hm => by
    obtain ⟨n', rfl, h1, h2⟩ := pd_tup h
    obtain ⟨m', rfl⟩ : ∃ m', m = m' + 1 := ⟨m - 1, by omega⟩
    simp only [pdB, Bool.and_eq_true, decide_eq_true_eq, List.all_eq_true]
    exact ⟨h1, fun d hd => pd_mono (h2 d hd) (by omega)⟩
  | n, m, .lst ds, h, hm => by
    obtain ⟨n', rfl, h1, h2⟩ := pd_lst h
    obtain ⟨m', rfl⟩ : ∃ m', m = m' + 1 := ⟨m - 1, by omega⟩
    simp only [pdB, Bool.and_eq_true, decide_eq_true_eq, List.all_eq_true]
    exact ⟨h1, fun d hd => pd_mono (h2 d hd) (by omega)⟩
  | n, m, .kl _, h, _ => by cases n <;> simp [pdB] at h
  | n, m, .dct _ _, h, _ => by cases n <;> simp [pdB] at h
  | n, m, .loc _, h, _ => by cases n <;> simp [pdB] at h
  | n, m, .fn _, h, _ => by cases n <;> simp [pdB] at h
  | n, m, .ty _, h, _ => by cases n <;> simp [pdB] at h
  | n, m, .ex _, h, _ => by cases n <;> simp [pdB] at h
theorem pds_py {n : Nat} (hr : ∀ d, pdB n d = true → ∃ p, toPy d = some p ∧ p.canLay0 = true ∧ p.depth ≤ n) : ∀ {ds : List D}, (∀ d ∈ ds, pdB n d = true) → ∃ ps, toPys ds = some ps ∧ PyData.canLayAll0 ps = true ∧ PyData.depthAll ps ≤ n
  | [], _ => ⟨[], rfl, by simp [PyData.canLayAll0], by simp [PyData.depthAll]⟩
  | d :: ds, h => by
    obtain ⟨p, h1, h2, h3⟩ := hr d (h d List.mem_cons_self)
    obtain ⟨ps, h4, h5, h6⟩ := pds_py hr fun e he => h e (List.mem_cons_of_mem _ he)
    refine ⟨p :: ps, by simp only [toPys, h1, h4, Option.bind_some, Option.map_some], by simp only [PyData.canLayAll0, h2, h5, Bool.and_self], ?_⟩
    rw [PyData.depthAll]
    exact Nat.max_le.mpr ⟨h3, h6⟩
theorem pd_py : ∀ (n : Nat) (d : D), pdB n d = true → ∃ p, toPy d = some p ∧ p.canLay0 = true ∧ p.depth ≤ n
  | n, .non, _ => ⟨.none, rfl, by simp only [PyData.canLay0], by simp [PyData.depth]⟩
  | n, .bl b, _ => ⟨.bool b, rfl, by simp only [PyData.canLay0], by simp [PyData.depth]⟩
  | n, .int b, _ => ⟨.int b, rfl, by simp only [PyData.canLay0], by simp [PyData.depth]⟩
  | n, .str x, h => ⟨.str x, rfl, by simp only [PyData.canLay0]; exact (pd_str h).1, by simp [PyData.depth]⟩
  | 0, .tup ds, h => by simp [pdB] at h
  | 0, .lst ds, h => by simp [pdB] at h
  | n + 1, .tup ds, h => by
    obtain ⟨n', e, h1, h2⟩ := pd_tup h
    cases e
    obtain ⟨ps, h4, h5, h6⟩ := pds_py (pd_py n) h2
    exact ⟨.tuple ps, by simp only [toPy, h4, Option.map_some], by simp only [PyData.canLay0, h5], by rw [PyData.depth]; omega⟩
  | n + 1, .lst ds, h => by
    obtain ⟨n', e, h1, h2⟩ := pd_lst h
    cases e
    obtain ⟨ps, h4, h5, h6⟩ := pds_py (pd_py n) h2
    exact ⟨.list ps, by simp only [toPy, h4, Option.map_some], by simp only [PyData.canLay0, h5], by rw [PyData.depth]; omega⟩
  | n, .kl _, h => by cases n <;> simp [pdB] at h
  | n, .dct _ _, h => by cases n <;> simp [pdB] at h
  | n, .loc _, h => by cases n <;> simp [pdB] at h
  | n, .fn _, h => by cases n <;> simp [pdB] at h
  | n, .ty _, h => by cases n <;> simp [pdB] at h
  | n, .ex _, h => by cases n <;> simp [pdB] at h
def isS (s : Str) : D → Bool
  | .str x => decide (x = s)
  | _ => false
def isNon : D → Bool
  | .non => true
  | _ => false
def vB : D → Bool
  | .str x => valB x
  | _ => false
def nB : D → Bool
  | .str x => nameB x
  | _ => false
section
variable {hc : Hc} {n : Nat}
theorem eq_pd {d : D} {s : Str} (h : pdB n d = true) (hn : n ≤ 60) (hs : PyData.strOk s = true) : eqD hc d (.str s) = some (isS s d) := by
  have seq : ∀ (p : PyData), p.canLay0 = true → p.depth ≤ n → (∀ x, p ≠ .str x) → (if SeqAt.shaped p && SeqAt.shaped (.str s) then some (PyData.eqv p (.str s)) else none) = (some (PyData.eqv p (.str s)) : Option Bool) := fun p h1 h2 _ => by
    have : SeqAt.shaped p = true := by
      unfold SeqAt.shaped
      rw [h1, Bool.true_and]
      exact decide_eq_true (by omega)
    rw [this, shaped_str hs]
    rfl
  cases d with
  | non => rfl
  | bl b => rfl
  | int i => rfl
  | str x => rfl
  | tup ds =>
    obtain ⟨p, h1, h2, h3⟩ := pd_py n _ h
    have h1' := h1
    simp only [toPy, Option.map_eq_some_iff] at h1'
    obtain ⟨ps, _, rfl⟩ := h1'
    show (match toPy1 hc (.tup ds), toPy1 hc (.str s) with
      | some p, some q => if SeqAt.shaped p && SeqAt.shaped q then some (PyData.eqv p q) else none
      | _, _ => none) = _
    have t1 : toPy1 hc (.tup ds) = some (.tuple ps) := h1
    have t2 : toPy1 hc (.str s) = some (.str s) := rfl
    rw [t1, t2]
    dsimp only
    rw [seq _ h2 h3 (fun x => by simp)]
    simp [PyData.eqv, isS]
  | lst ds =>
    obtain ⟨p, h1, h2, h3⟩ := pd_py n _ h
    have h1' := h1
    simp only [toPy, Option.map_eq_some_iff] at h1'
    obtain ⟨ps, _, rfl⟩ := h1'
    show (match toPy1 hc (.lst ds), toPy1 hc (.str s) with
      | some p, some q => if SeqAt.shaped p && SeqAt.shaped q then some (PyData.eqv p q) else none
      | _, _ => none) = _
    have t1 : toPy1 hc (.lst ds) = some (.list ps) := h1
    have t2 : toPy1 hc (.str s) = some (.str s) := rfl
    rw [t1, t2]
    dsimp only
    rw [seq _ h2 h3 (fun x => by simp)]
    simp [PyData.eqv, isS]
  | kl _ => cases n <;> simp [pdB] at h
  | dct _ _ => cases n <;> simp [pdB] at h
  | loc _ => cases n <;> simp [pdB] at h
  | fn _ => cases n <;> simp [pdB] at h
  | ty _ => cases n <;> simp [pdB] at h
  | ex _ => cases n <;> simp [pdB] at h
/-! ### tests with known answers -/
variable {sl : Sl} {t u : Sl → Hc → Res Bool} {f k : Sl → Hc → Res D} {a b c : Bool} {G : Sl → Hc → RS}
theorem orB (e1 : t sl hc = .ok a hc) (e2 : a = false → u sl hc = .ok b hc) : orT t u sl hc = .ok (a || b) hc := by
  cases a with
  | true => exact orY e1
  | false => exact orN e1 (e2 rfl)
theorem andB (e1 : t sl hc = .ok a hc) (e2 : a = true → u sl hc = .ok b hc) : andT t u sl hc = .ok (a && b) hc := by
  cases a with
  | true => exact andY e1 (e2 rfl)
  | false => exact andF e1
theorem andEB (e1 : f sl hc = .ok (.bl a) hc) (e2 : a = true → k sl hc = .ok (.bl b) hc) : andE f k sl hc = .ok (.bl (a && b)) hc := by
  cases a with
  | true => exact andEY e1 (e2 rfl)
  | false => exact andEF e1
theorem orEB (e1 : f sl hc = .ok (.bl a) hc) (e2 : a = false → k sl hc = .ok (.bl b) hc) : orE f k sl hc = .ok (.bl (a || b)) hc := by
  unfold orE
  rw [e1]
  cases a with
  | true => rfl
  | false => exact e2 rfl
theorem guardF (e1 : t sl hc = .ok a hc) (e2 : a = false → G sl hc = .rt (.bl b) hc) : seqS (ifS t (retS (cE (.bl false))) Bo.nS) G sl hc = .rt (.bl (!a && b)) hc := by
  cases a with
  | true => exact seqR (ifY e1 (retO rfl))
  | false => exact (seqN (ifN e1 rfl)).trans (e2 rfl)
theorem fnB {np m : Nat} {F : Sl → Hc → RS} {ds : List D} (hl : ds.length = np) (e : F (startS m ds) hc = .rt (.bl a) hc) : fnR np m F ds hc = .ok (.bl a) hc := fnO hl e
def isTup : D → Bool
  | .tup _ => true
  | _ => false
def isStr : D → Bool
  | .str _ => true
  | _ => false
theorem isiT {d : D} (h : pdB n d = true) : isiD .tup hc d = some (.bl (isTup d)) := by
  cases d with
  | non => rfl
  | bl b => rfl
  | int i => rfl
  | str x => rfl
  | tup ds => rfl
  | lst ds => rfl
  | kl _ => cases n <;> simp [pdB] at h
  | dct _ _ => cases n <;> simp [pdB] at h
  | loc _ => cases n <;> simp [pdB] at h
  | fn _ => cases n <;> simp [pdB] at h
  | ty _ => cases n <;> simp [pdB] at h
  | ex _ => cases n <;> simp [pdB] at h
theorem isiS {d : D} (h : pdB n d = true) : isiD .str hc d = some (.bl (isStr d)) := by
  cases d with
  | non => rfl
  | bl b => rfl
  | int i => rfl
  | str x => rfl
  | tup ds => rfl
  | lst ds => rfl
  | kl _ => cases n <;> simp [pdB] at h
  | dct _ _ => cases n <;> simp [pdB] at h
  | loc _ => cases n <;> simp [pdB] at h
  | fn _ => cases n <;> simp [pdB] at h
  | ty _ => cases n <;> simp [pdB] at h
  | ex _ => cases n <;> simp [pdB] at h
def isBl : D → Bool
  | .bl _ => true
  | _ => false
theorem isiB {d : D} (h : pdB n d = true) : isiD .bl hc d = some (.bl (isBl d)) := by
  cases d with
  | non => rfl
  | bl b => rfl
  | int i => rfl
  | str x => rfl
  | tup ds => rfl
  | lst ds => rfl
  | kl _ => cases n <;> simp [pdB] at h
  | dct _ _ => cases n <;> simp [pdB] at h
  | loc _ => cases n <;> simp [pdB] at h
  | fn _ => cases n <;> simp [pdB] at h
  | ty _ => cases n <;> simp [pdB] at h
  | ex _ => cases n <;> simp [pdB] at h
theorem isN {d : D} : isO hc d .non = some (.bl (isNon d)) := by cases d <;> rfl
theorem value_pd {d : D} (h : pdB n d = true) : c_is_value [d] hc = .ok (.bl (vB d)) hc := by
  have no : isStr d = false → vB d = false → c_is_value [d] hc = .ok (.bl (vB d)) hc := fun q w => by
    have i := isiS (hc := hc) h
    rw [q] at i
    rw [w]
    exact fnO rfl (seqR (ifY (orY (nTO (b := false) (bO (unO (a := d) rfl i)))) (retO rfl)))
  cases d with
  | str x => exact value_str (by have := (pd_str h).2; rw [sizeLine_eq]; omega)
  | _ => exact no rfl rfl
theorem name_pd {d : D} (h : pdB n d = true) : c_is_name [d] hc = .ok (.bl (nB d)) hc := by
  have v := value_pd (hc := hc) h
  have no : isStr d = false → vB d = false → nB d = false → c_is_name [d] hc = .ok (.bl (nB d)) hc := fun q w z => by
    rw [w] at v
    rw [z]
    exact fnO rfl (retO (andEF (callO (k1 rfl) v)))
  cases d with
  | str x => exact name_str (by have := (pd_str h).2; rw [sizeLine_eq]; omega)
  | _ => exact no rfl rfl rfl
theorem lenNe {ds : List D} {m : Nat} {i : Nat} {I : Int} (e : sl[i]? = some (some (.tup ds))) (hI : I = (m : Int)) : bT (opE neO (blE lenD (kA (vE i) (nA))) (cE (.int I))) sl hc = .ok (!decide (ds.length = m)) hc := by
  subst hI
  refine bO (opO (a := .int (ds.length : Int)) (b := .int (m : Int)) (blO (k1 (vO e)) rfl) rfl ?_)
  show some (D.bl (!decide ((ds.length : Int) = (m : Int)))) = _
  congr 3
  rw [decide_eq_decide]
  omega
theorem notTup {d : D} {i : Nat} (h : pdB n d = true) (e : sl[i]? = some (some d)) : nT (bT (unE (isiD .tup) (vE i))) sl hc = .ok (!isTup d) hc := nTO (bO (unO (vO e) (isiT h)))
theorem notStr {d : D} {i : Nat} (h : pdB n d = true) (e : sl[i]? = some (some d)) : nT (bT (unE (isiD .str) (vE i))) sl hc = .ok (!isStr d) hc := nTO (bO (unO (vO e) (isiS h)))
/-! ### columns -/
def colB : D → Bool
  | .tup [a, b] => (isNon a || nB a) && nB b
  | _ => false
theorem col_pd {d : D} (h : pdB n d = true) : c_is_column_form [d] hc = .ok (.bl (colB d)) hc := by
  have i1 := notTup (hc := hc) (sl := [some d]) (i := 0) h rfl
  cases ht : isTup d with
  | false =>
    rw [ht] at i1
    have : colB d = false := by cases d <;> first | rfl | cases ht
    rw [this]
    exact fnO rfl (seqR (ifY (orY i1) (retO rfl)))
  | true =>
    rw [ht] at i1
    cases d with
    | tup ds =>
      obtain ⟨m, rfl, hl, hd⟩ := pd_tup h
      have i2 := lenNe (hc := hc) (sl := [some (.tup ds)]) (i := 0) (m := 2) (I := 2) (ds := ds) rfl rfl
      by_cases q : ds.length = 2
      · match ds, q with
        | [x, y], _ =>
          have hx := hd x (by simp)
          have hy := hd y (by simp)
          refine fnO rfl ((seqN (ifN (orN i1 i2) rfl)).trans (retO ?_))
          exact andEB (orEB (opO (a := x) (b := .non) rfl rfl isN) (fun _ => callO (k1 (a := x) rfl) (name_pd hx))) (fun _ => callO (k1 (a := y) rfl) (name_pd hy))
      · rw [decide_eq_false q] at i2
        have : colB (.tup ds) = false := by
          match ds, q with
          | [], _ => rfl
          | [_], _ => rfl
          | [_, _], q => exact absurd rfl q
          | _ :: _ :: _ :: _, _ => rfl
        rw [this]
        exact fnO rfl (seqR (ifY (orN i1 i2) (retO rfl)))
    | _ => cases ht
/-! ### calls -/
def callB : Nat → D → Bool
  | n + 1, .tup [w, s, x, ts] => isS "call" w && ((isNon s || nB s) && nB x) && (match ts with
    | .tup ts => decide (1 ≤ ts.length) && decide (ts.length ≤ 2) && ts.all fun t => colB t || (vB t || callB n t)
    | _ => false)
  | _, _ => false
theorem allB {P : D → Bool} {fe fi : Sl → Hc → Res D} {ds : List D} {i : Nat} (e : fi sl hc = .ok (.tup ds) hc) (hl : ds.length ≤ 1000000) (h : ∀ d ∈ ds, ∃ s1, nmG i d (wipeS sl [i]) = some s1 ∧ fe s1 hc = .ok (.bl (P d)) hc) : blE allD (kA (lcE [i] (nmG i) (itE itA fi) (yT) fe) (nA)) sl hc = .ok (.bl (ds.all P)) hc := by
  have m := mapC_pure (ft := nmG i) (fe := fe) (sl := wipeS sl [i]) (hc := hc) (f := fun d => .bl (P d)) ds h
  have l : lcE [i] (nmG i) (itE itA fi) (yT) fe sl hc = .ok (.lst (ds.map fun d => .bl (P d))) hc := by
    unfold lcE
    rw [itO e rfl]
    have : (ds.map fun d => D.bl (P d)).length ≤ sizeLine := by rw [List.length_map, sizeLine_eq]; omega
    simp only [Res.bind, m, if_pos this]
  exact blO (k1 l) (all_map hc P ds)
theorem len12 {ds : List D} {i : Nat} {lo hi : Nat} {L Hh : Int} (e : sl[i]? = some (some (.tup ds))) (hL : L = (lo : Int)) (hH : Hh = (hi : Int)) : chE leO leO (cE (.int L)) (blE lenD (kA (vE i) (nA))) (cE (.int Hh)) sl hc = .ok (.bl (decide (lo ≤ ds.length) && decide (ds.length ≤ hi))) hc := by
  subst hL hH
  have ln : blE lenD (kA (vE i) (nA)) sl hc = .ok (.int (ds.length : Int)) hc := blO (k1 (vO e)) rfl
  have h1 : leO hc (.int (lo : Int)) (.int (ds.length : Int)) = some (.bl (decide (lo ≤ ds.length))) := by
    show some (D.bl (decide ((lo : Int) ≤ (ds.length : Int)))) = _
    congr 2
    rw [decide_eq_decide]; omega
  have h2 : leO hc (.int (ds.length : Int)) (.int (hi : Int)) = some (.bl (decide (ds.length ≤ hi))) := by
    show some (D.bl (decide ((ds.length : Int) ≤ (hi : Int)))) = _
    congr 2
    rw [decide_eq_decide]; omega
  by_cases q : lo ≤ ds.length
  · rw [decide_eq_true q] at h1 ⊢
    rw [Bool.true_and]
    exact chY (a := .int (lo : Int)) rfl ln h1 (c := .int (hi : Int)) rfl h2
  · rw [decide_eq_false q] at h1 ⊢
    exact chN (a := .int (lo : Int)) rfl ln h1
theorem callB_len {k : Nat} {ds : List D} (q : ds.length ≠ 4) : callB k (.tup ds) = false := by
  cases k with
  | zero => rfl
  | succ k =>
    match ds, q with
    | [], _ => rfl
    | [_], _ => rfl
    | [_, _], _ => rfl
    | [_, _, _], _ => rfl
    | [_, _, _, _], q => exact absurd rfl q
    | _ :: _ :: _ :: _ :: _ :: _, _ => rfl
theorem call_pd : ∀ (fu k n : Nat) (d : D), k < fu → pdB n d = true → n ≤ 60 → c_is_call_form fu [d, .int (k : Int)] hc = .ok (.bl (callB k d)) hc
  | 0, k, n, d, hk, _, _ => absurd hk (by omega)
  | fu + 1, k, n, d, hk, h, hn => by
    have i1 := notTup (hc := hc) (sl := [some d, some (.int (k : Int)), none, none, none, none, none]) (i := 0) h rfl
    cases ht : isTup d with
    | false =>
      rw [ht] at i1
      have : callB k d = false := by cases k <;> cases d <;> first | rfl | cases ht
      rw [this]
      exact fnO rfl (seqR (ifY (orY i1) (retO rfl)))
    | true =>
      rw [ht] at i1
      cases d with
      | tup ds =>
        obtain ⟨m, rfl, hl, hd⟩ := pd_tup h
        have i2 := lenNe (hc := hc) (sl := [some (.tup ds), some (.int (k : Int)), none, none, none, none, none]) (i := 0) (m := 4) (I := 4) (ds := ds) rfl rfl
        by_cases q : ds.length = 4
        · rw [decide_eq_true q] at i2
          match ds, q with
          | [w, s, x, ts], _ =>
            have i3 : bT (opE eqO (vE 1) (cE (.int 0))) [some (.tup [w, s, x, ts]), some (.int (k : Int)), none, none, none, none, none] hc = .ok (decide (k = 0)) hc := bO (opO (a := .int (k : Int)) (b := .int 0) rfl rfl (by
              show some (D.bl (decide ((k : Int) = 0))) = _
              congr 2
              rw [decide_eq_decide]; omega))
            by_cases hk0 : k = 0
            · rw [decide_eq_true hk0] at i3
              have : callB k (.tup [w, s, x, ts]) = false := by subst hk0; rfl
              rw [this]
              exact fnO rfl (seqR (ifY (orN i1 (orN i2 (orY i3))) (retO rfl)))
            · rw [decide_eq_false hk0] at i3
              obtain ⟨k', rfl⟩ : ∃ k', k = k' + 1 := ⟨k - 1, by omega⟩
              have hw := hd w (by simp)
              have hs := hd s (by simp)
              have hx := hd x (by simp)
              have hts := hd ts (by simp)
              have i4 : nT (bT (unE (isiD .str) (opE ixD (vE 0) (cE (.int 0))))) [some (.tup [w, s, x, ts]), some (.int ((k' + 1 : Nat) : Int)), none, none, none, none, none] hc = .ok (!isStr w) hc := nTO (bO (unO (opO (a := .tup [w, s, x, ts]) (b := .int 0) rfl rfl rfl) (isiS hw)))
              cases hw2 : isStr w with
              | false =>
                rw [hw2] at i4
                have : callB (k' + 1) (.tup [w, s, x, ts]) = false := by
                  have : isS "call" w = false := by cases w <;> first | rfl | cases hw2
                  simp only [callB, this, Bool.false_and]
                rw [this]
                exact fnO rfl (seqR (ifY (orN i1 (orN i2 (orN i3 i4))) (retO rfl)))
              | true =>
                rw [hw2] at i4
                cases w with
                | str w =>
                  have t1 := ifN (F := retS (cE (.bl false))) (G := Bo.nS) (orN i1 (orN i2 (orN i3 i4))) rfl
                  have t2 : asG (tupH 4 (consG (nmG 2) (consG (nmG 3) (consG (nmG 4) (consG (nmG 5) (nilG)))))) (vE 0) [some (.tup [.str w, s, x, ts]), some (.int ((k' + 1 : Nat) : Int)), none, none, none, none, none] hc = .nx [some (.tup [.str w, s, x, ts]), some (.int ((k' + 1 : Nat) : Int)), some (.str w), some s, some x, some ts, none] hc := asgG rfl rfl
                  have e1 : bT (opE neO (vE 2) (cE (.str "call"))) [some (.tup [.str w, s, x, ts]), some (.int ((k' + 1 : Nat) : Int)), some (.str w), some s, some x, some ts, none] hc = .ok (!isS "call" (.str w)) hc := bO (opO (a := .str w) (b := .str "call") rfl rfl rfl)
                  have e2 : nT (orT (bT (opE isO (vE 3) (cE .non))) (bT (callE c_is_name (kA (vE 3) (nA))))) [some (.tup [.str w, s, x, ts]), some (.int ((k' + 1 : Nat) : Int)), some (.str w), some s, some x, some ts, none] hc = .ok (!(isNon s || nB s)) hc := nTO (orB (bO (opO (a := s) (b := .non) rfl rfl isN)) (fun _ => bO (callO (k1 (a := s) rfl) (name_pd hs))))
                  have e3 : nT (bT (callE c_is_name (kA (vE 4) (nA)))) [some (.tup [.str w, s, x, ts]), some (.int ((k' + 1 : Nat) : Int)), some (.str w), some s, some x, some ts, none] hc = .ok (!nB x) hc := nTO (bO (callO (k1 (a := x) rfl) (name_pd hx)))
                  have e4 := notTup (hc := hc) (sl := [some (.tup [.str w, s, x, ts]), some (.int ((k' + 1 : Nat) : Int)), some (.str w), some s, some x, some ts, none]) (i := 5) hts rfl
                  have g : ∀ G : Sl → Hc → RS, ∀ b, (((!isS "call" (.str w)) || ((!(isNon s || nB s)) || (!nB x))) = false → G [some (.tup [.str w, s, x, ts]), some (.int ((k' + 1 : Nat) : Int)), some (.str w), some s, some x, some ts, none] hc = .rt (.bl b) hc) → seqS (ifS (orT (bT (opE neO (vE 2) (cE (.str "call")))) (orT (nT (orT (bT (opE isO (vE 3) (cE .non))) (bT (callE c_is_name (kA (vE 3) (nA)))))) (nT (bT (callE c_is_name (kA (vE 4) (nA))))))) (retS (cE (.bl false))) (Bo.nS)) G [some (.tup [.str w, s, x, ts]), some (.int ((k' + 1 : Nat) : Int)), some (.str w), some s, some x, some ts, none] hc = .rt (.bl (!((!isS "call" (.str w)) || ((!(isNon s || nB s)) || (!nB x))) && b)) hc := fun G b hG => guardF (orB e1 fun _ => orB e2 fun _ => e3) hG
                  cases ht2 : isTup ts with
                  | false =>
                    rw [ht2] at e4
                    have g2 := fun G0 => g (seqS (ifS (orT (nT (bT (unE (isiD .tup) (vE 5)))) (nT (bT (chE leO leO (cE (.int 1)) (blE lenD (kA (vE 5) (nA))) (cE (.int 2)))))) (retS (cE (.bl false))) Bo.nS) G0) false (fun _ => seqR (ifY (orY e4) (retO rfl)))
                    have : callB (k' + 1) (.tup [.str w, s, x, ts]) = false := by
                      cases ts <;> first | (cases ht2; done) | (simp only [callB, Bool.and_false])
                    rw [this]
                    simp only [Bool.and_false] at g2
                    exact fnO rfl ((seqN t1).trans ((seqN t2).trans (g2 _)))
                  | true =>
                    rw [ht2] at e4
                    cases ts with
                    | tup ts =>
                      obtain ⟨m2, rfl, hl2, hd2⟩ := pd_tup hts
                      have e5 := len12 (hc := hc) (sl := [some (.tup [.str w, s, x, .tup ts]), some (.int ((k' + 1 : Nat) : Int)), some (.str w), some s, some x, some (.tup ts), none]) (i := 5) (lo := 1) (hi := 2) (L := 1) (Hh := 2) (ds := ts) rfl rfl rfl
                      have e6 := allB (hc := hc) (sl := [some (.tup [.str w, s, x, .tup ts]), some (.int ((k' + 1 : Nat) : Int)), some (.str w), some s, some x, some (.tup ts), none]) (i := 6) (fi := vE 5) (ds := ts) (P := fun t => colB t || (vB t || callB k' t)) (fe := orE (callE c_is_column_form (kA (vE 6) (nA))) (orE (callE c_is_value (kA (vE 6) (nA))) (callE (c_is_call_form fu) (kA (vE 6) (kA (opE subD (vE 1) (cE (.int 1))) (nA)))))) rfl (by omega) (fun t ht => by
                        refine ⟨[some (.tup [.str w, s, x, .tup ts]), some (.int ((k' + 1 : Nat) : Int)), some (.str w), some s, some x, some (.tup ts), some t], rfl, ?_⟩
                        have hpt := hd2 t ht
                        refine orEB (callO (k1 (a := t) rfl) (col_pd hpt)) fun _ => orEB (callO (k1 (a := t) rfl) (value_pd hpt)) fun _ => callO (as := [t, .int (k' : Int)]) (hc1 := hc) (kO rfl (k1 (opO (a := .int ((k' + 1 : Nat) : Int)) (b := .int 1) rfl rfl ?_))) (call_pd fu k' m2 t (by omega) hpt (by omega))
                        show some (D.int (((k' + 1 : Nat) : Int) - 1)) = _
                        congr 2
                        omega)
                      have g2 := g _ _ (fun _ => guardF (orB e4 fun _ => nTO (bO e5)) fun _ => retO e6)
                      have : callB (k' + 1) (.tup [.str w, s, x, .tup ts]) = (!((!isS "call" (.str w)) || ((!(isNon s || nB s)) || (!nB x))) && (!((!isTup (.tup ts)) || !(decide (1 ≤ ts.length) && decide (ts.length ≤ 2))) && ts.all fun t => colB t || (vB t || callB k' t))) := by
                        have tt : isTup (.tup ts) = true := rfl
                        simp only [callB, tt, Bool.not_or, Bool.not_not, Bool.not_true, Bool.false_or, Bool.or_false, Bool.and_assoc, Bool.not_and]
                      rw [this]
                      exact fnO rfl ((seqN t1).trans ((seqN t2).trans g2))
                    | _ => cases ht2
                | _ => cases hw2
        · rw [decide_eq_false q] at i2
          rw [callB_len q]
          exact fnO rfl (seqR (ifY (orN i1 (orY i2)) (retO rfl)))
      | _ => cases ht
end
end Rdr

set_option Elab.async false
set_option linter.all false
set_option maxRecDepth 100000
set_option maxHeartbeats 4000000
set_option autoImplicit false
/-! Forms: lists of values, what is told, sources, conditions, statements, of any plain data. -/
namespace Rdr
open PySem PySem.Spec PyProof.Rows L2 Bo
def strD : D → Str
  | .str x => x
  | _ => ""
def valsB : D → Bool
  | .tup ds => (decide (1 ≤ ds.length) && decide (ds.length ≤ 8)) && (ds.all vB && Asc (ds.map strD))
  | _ => false
theorem all_strs : ∀ {ds : List D}, ds.all vB = true → ds = (ds.map strD).map D.str ∧ ∀ x ∈ ds.map strD, valB x = true
  | [], _ => ⟨rfl, fun x hx => by cases hx⟩
  | d :: ds, h => by
    rw [List.all_cons, Bool.and_eq_true] at h
    obtain ⟨h1, h2⟩ := all_strs h.2
    cases d with
    | str x =>
      refine ⟨by rw [List.map_cons, List.map_cons, ← h1]; rfl, fun y hy => ?_⟩
      rw [List.map_cons, List.mem_cons] at hy
      rcases hy with rfl | hy
      · exact h.1
      · exact h2 y hy
    | _ => simp [vB] at h
theorem valB_ok {x : Str} (h : valB x = true) : x.length ≤ 8 ∧ PyData.strOk x = true := by
  unfold valB at h
  rw [Bool.and_eq_true, Bool.and_eq_true, decide_eq_true_eq, decide_eq_true_eq] at h
  exact ⟨h.2.1, low_ok h.2.2 (by omega)⟩
section
variable {hc : Hc} {n : Nat} {sl : Sl}
theorem caseN {p : PMt} {tt : Sl → Hc → Res Bool} {fb : Sl → Hc → RS} {k : CMt} {d : D} (e : p hc d = some none) : caseC p tt fb k d sl hc = k d sl hc := by
  simp only [caseC, e]
theorem caseY {p : PMt} {fb : Sl → Hc → RS} {k : CMt} {d : D} {bs : Bs} {r : RS} (e : p hc d = some (some bs)) (e3 : fb (bindAll sl bs) hc = r) : caseC p yT fb k d sl hc = r := by
  simp only [caseC, e, yT, Res.toS, if_true, e3]
theorem val_pd {d : D} {s : Str} (h : pdB n d = true) (hn : n ≤ 60) (hs : PyData.strOk s = true) : valP s hc d = some (if isS s d then some [] else none) := by
  unfold valP
  rw [eq_pd h hn hs]
  rfl
theorem values_pd {d : D} (h : pdB n d = true) (hn : n ≤ 60) : c_is_values [d] hc = .ok (.bl (valsB d)) hc := by
  have i1 := notTup (hc := hc) (sl := [some d, none]) (i := 0) h rfl
  cases ht : isTup d with
  | false =>
    rw [ht] at i1
    have : valsB d = false := by cases d <;> first | rfl | cases ht
    rw [this]
    exact fnO rfl (seqR (ifY (orY i1) (retO rfl)))
  | true =>
    rw [ht] at i1
    cases d with
    | tup ds =>
      obtain ⟨m, rfl, hl, hd⟩ := pd_tup h
      have e5 := len12 (hc := hc) (sl := [some (.tup ds), none]) (i := 0) (lo := 1) (hi := 8) (L := 1) (Hh := 8) (ds := ds) rfl rfl rfl
      have e6 := allB (hc := hc) (sl := [some (.tup ds), none]) (i := 1) (fi := vE 0) (ds := ds) (P := vB) (fe := callE c_is_value (kA (vE 1) (nA))) rfl (by omega) (fun t ht => ⟨[some (.tup ds), some t], rfl, callO (k1 (a := t) rfl) (value_pd (hd t ht))⟩)
      refine fnO rfl ?_
      have g := guardF (G := retS (andE (blE allD (kA (lcE [1] (nmG 1) (itE itA (vE 0)) (yT) (callE c_is_value (kA (vE 1) (nA)))) (nA))) (opE eqO (blE listD (kA (vE 0) (nA))) (blE sortSetD (kA (vE 0) (nA)))))) (b := ds.all vB && Asc (ds.map strD)) (orB i1 fun _ => nTO (bO e5)) (fun hlen => retO (andEB e6 fun hall => by
        obtain ⟨q1, q2⟩ := all_strs hall
        have hl8 : (ds.map strD).length ≤ 8 := by
          simp only [Bool.not_true, Bool.false_or, Bool.not_eq_false', Bool.and_eq_true, decide_eq_true_eq] at hlen
          rw [List.length_map]
          exact hlen.2
        obtain ⟨ys, s1, s2, s3⟩ := sortset_strs (hc := hc) (xs := ds.map strD) (by omega)
        have hq : ∀ x ∈ ds.map strD, PyData.strOk x = true := fun x hx => (valB_ok (q2 x hx)).2
        have e := eq_strs (hc := hc) hq (fun y hy => hq y (s2 y hy))
        rw [s3] at e
        refine opO (a := .lst ((ds.map strD).map D.str)) (b := .lst (ys.map D.str)) (blO (k1 (a := .tup ds) rfl) ?_) (blO (k1 (a := .tup ds) rfl) ?_) e
        · show some (D.lst ds) = _
          rw [← q1]
        · rw [← s1, ← q1]))
      refine Eq.trans g ?_
      simp only [valsB, Bool.not_true, Bool.false_or, Bool.not_not]
    | _ => cases ht
/-! ### what is told -/
def toldB : D → Bool
  | .tup [a, b] => isS "star" a && nB b
  | .tup [a, b, c] => if isS "column" a then colB b && nB c else isS "term" a && ((vB b || callB 3 b) && nB c)
  | _ => false
def seqOfD : D → Option (List D)
  | .tup ds => some ds
  | .lst ds => some ds
  | _ => none
theorem pd_seq {d : D} {ds : List D} (h : pdB n d = true) (e : seqOfD d = some ds) : ∃ m, n = m + 1 ∧ ∀ x ∈ ds, pdB m x = true := by
  cases d with
  | tup es => cases e; obtain ⟨m, h1, _, h2⟩ := pd_tup h; exact ⟨m, h1, h2⟩
  | lst es => cases e; obtain ⟨m, h1, _, h2⟩ := pd_lst h; exact ⟨m, h1, h2⟩
  | _ => cases e
theorem seqP_seq {d : D} {ds : List D} {m : Nat} {k : Hc → List D → Option (Option Bs)} (e : seqOfD d = some ds) : seqP m k hc d = if ds.length = m then k hc ds else some none := by
  cases d with
  | tup es => cases e; rfl
  | lst es => cases e; rfl
  | _ => cases e
theorem seqP_no {d : D} {m : Nat} {k : Hc → List D → Option (Option Bs)} (h : pdB n d = true) (e : seqOfD d = none) : seqP m k hc d = some none := by
  cases d with
  | non => rfl
  | bl b => rfl
  | int i => rfl
  | str x => rfl
  | tup ds => cases e
  | lst ds => cases e
  | kl _ => cases n <;> simp [pdB] at h
  | dct _ _ => cases n <;> simp [pdB] at h
  | loc _ => cases n <;> simp [pdB] at h
  | fn _ => cases n <;> simp [pdB] at h
  | ty _ => cases n <;> simp [pdB] at h
  | ex _ => cases n <;> simp [pdB] at h
theorem pat2 {d a b : D} {s : Str} {i : Nat} (e : seqOfD d = some [a, b]) (h : pdB n a = true) (hn : n ≤ 60) (hs : PyData.strOk s = true) : seqP 2 (consP (valP s) (consP (capP i) (nilP))) hc d = some (if isS s a then some [(i, b)] else none) := by
  rw [seqP_seq e]
  simp only [List.length_cons, List.length_nil, if_true, consP, val_pd h hn hs]
  cases isS s a <;> rfl
theorem pat3 {d a b c : D} {s : Str} {i j : Nat} (e : seqOfD d = some [a, b, c]) (h : pdB n a = true) (hn : n ≤ 60) (hs : PyData.strOk s = true) : seqP 3 (consP (valP s) (consP (capP i) (consP (capP j) (nilP)))) hc d = some (if isS s a then some [(i, b), (j, c)] else none) := by
  rw [seqP_seq e]
  simp only [List.length_cons, List.length_nil, if_true, consP, val_pd h hn hs]
  cases isS s a <;> rfl
theorem patL {d : D} {ds : List D} {m : Nat} {k : Hc → List D → Option (Option Bs)} (e : seqOfD d = some ds) (h : ds.length ≠ m) : seqP m k hc d = some none := by
  rw [seqP_seq e, if_neg h]
theorem isTup_seq {d : D} {ds : List D} (e : seqOfD d = some ds) : isTup d = true → d = .tup ds := fun h => by
  cases d with
  | tup es => cases e; rfl
  | _ => cases h
theorem toldB_no {d : D} (e : isTup d = false) : toldB d = false := by cases d <;> first | rfl | cases e
theorem told_pd {d : D} (h : pdB n d = true) (hn : n ≤ 60) : c_is_told [d] hc = .ok (.bl (toldB d)) hc := by
  have ok1 : PyData.strOk "star" = true := by decide +kernel
  have ok2 : PyData.strOk "column" = true := by decide +kernel
  have ok3 : PyData.strOk "term" = true := by decide +kernel
  have it := isiT (hc := hc) h
  have none3 : (∀ k, seqP 2 k hc d = some none) → (∀ k, seqP 3 k hc d = some none) → c_is_told [d] hc = .ok (.bl false) hc := fun p2 p3 =>
    fnO rfl ((seqN (matO (d := d) rfl ((caseN (p2 _)).trans ((caseN (p3 _)).trans ((caseN (p3 _)).trans rfl))))).trans (retO rfl))
  cases es : seqOfD d with
  | none =>
    have : toldB d = false := by cases d <;> first | rfl | cases es
    rw [this]
    exact none3 (fun k => seqP_no h es) (fun k => seqP_no h es)
  | some ds =>
    obtain ⟨m, rfl, hd⟩ := pd_seq h es
    by_cases q2 : ds.length = 2
    · match ds, q2 with
      | [a, b], _ =>
        have ha := hd a (by simp)
        have hb := hd b (by simp)
        have p1 := pat2 (hc := hc) (s := "star") (i := 1) es ha (by omega) ok1
        have p3 : ∀ k, seqP 3 k hc d = some none := fun k => patL es (by simp)
        cases z : isS "star" a with
        | true =>
          rw [z] at p1
          have : toldB d = (isTup d && nB b) := by
            cases tt : isTup d with
            | false => rw [toldB_no tt]; rfl
            | true => rw [isTup_seq es tt]; simp only [toldB, z]
          rw [this]
          exact fnO rfl (seqR (matO (d := d) rfl (caseY p1 (retO (andEB (unO (a := d) rfl it) fun _ => callO (k1 (a := b) rfl) (name_pd hb))))))
        | false =>
          rw [z] at p1
          have : toldB d = false := by
            cases tt : isTup d with
            | false => rw [toldB_no tt]
            | true => rw [isTup_seq es tt]; simp only [toldB, z, Bool.false_and]
          rw [this]
          exact fnO rfl ((seqN (matO (d := d) rfl ((caseN p1).trans ((caseN (p3 _)).trans ((caseN (p3 _)).trans rfl))))).trans (retO rfl))
    · by_cases q3 : ds.length = 3
      · match ds, q3 with
        | [a, b, c], _ =>
          have ha := hd a (by simp)
          have hb := hd b (by simp)
          have hcc := hd c (by simp)
          have p2 : ∀ k, seqP 2 k hc d = some none := fun k => patL es (by simp)
          have p3 := pat3 (hc := hc) (s := "column") (i := 2) (j := 3) es ha (by omega) ok2
          have p4 := pat3 (hc := hc) (s := "term") (i := 4) (j := 3) es ha (by omega) ok3
          cases z : isS "column" a with
          | true =>
            rw [z] at p3
            have : toldB d = (isTup d && (colB b && nB c)) := by
              cases tt : isTup d with
              | false => rw [toldB_no tt]; rfl
              | true => rw [isTup_seq es tt]; simp only [toldB, z, if_true, Bool.true_and]
            rw [this]
            exact fnO rfl (seqR (matO (d := d) rfl ((caseN (p2 _)).trans (caseY p3 (retO (andEB (unO (a := d) rfl it) fun _ => andEB (callO (k1 (a := b) rfl) (col_pd hb)) fun _ => callO (k1 (a := c) rfl) (name_pd hcc)))))))
          | false =>
            rw [z] at p3
            cases y : isS "term" a with
            | true =>
              rw [y] at p4
              have : toldB d = (isTup d && ((vB b || callB 3 b) && nB c)) := by
                cases tt : isTup d with
                | false => rw [toldB_no tt]; rfl
                | true => rw [isTup_seq es tt]; simp only [toldB, z, y, Bool.false_eq_true, if_false, Bool.true_and]
              rw [this]
              exact fnO rfl (seqR (matO (d := d) rfl ((caseN (p2 _)).trans ((caseN p3).trans (caseY p4 (retO (andEB (unO (a := d) rfl it) fun _ => andEB (orEB (callO (k1 (a := b) rfl) (value_pd hb)) fun _ => callO (as := [b, .int 3]) (hc1 := hc) rfl (call_pd 20 3 m b (by omega) hb (by omega))) fun _ => callO (k1 (a := c) rfl) (name_pd hcc))))))))
            | false =>
              rw [y] at p4
              have : toldB d = false := by
                cases tt : isTup d with
                | false => rw [toldB_no tt]
                | true => rw [isTup_seq es tt]; simp only [toldB, z, y, Bool.false_eq_true, if_false, Bool.false_and]
              rw [this]
              exact fnO rfl ((seqN (matO (d := d) rfl ((caseN (p2 _)).trans ((caseN p3).trans ((caseN p4).trans rfl))))).trans (retO rfl))
      · have : toldB d = false := by
          cases tt : isTup d with
          | false => rw [toldB_no tt]
          | true =>
            rw [isTup_seq es tt]
            match ds, q2, q3 with
            | [], _, _ => rfl
            | [_], _, _ => rfl
            | [_, _], q, _ => exact absurd rfl q
            | [_, _, _], _, q => exact absurd rfl q
            | _ :: _ :: _ :: _ :: _, _, _ => rfl
        rw [this]
        exact none3 (fun k => patL es q2) (fun k => patL es q3)
/-! ### sources -/
def srcB : D → Bool
  | .tup [a, b, c] => (isNon a || nB a) && (nB b && nB c)
  | _ => false
theorem source_pd {d : D} (h : pdB n d = true) : c_is_source [d] hc = .ok (.bl (srcB d)) hc := by
  have i1 := notTup (hc := hc) (sl := [some d]) (i := 0) h rfl
  cases ht : isTup d with
  | false =>
    rw [ht] at i1
    have : srcB d = false := by cases d <;> first | rfl | cases ht
    rw [this]
    exact fnO rfl (seqR (ifY (orY i1) (retO rfl)))
  | true =>
    rw [ht] at i1
    cases d with
    | tup ds =>
      obtain ⟨m, rfl, hl, hd⟩ := pd_tup h
      have i2 := lenNe (hc := hc) (sl := [some (.tup ds)]) (i := 0) (m := 3) (I := 3) (ds := ds) rfl rfl
      by_cases q : ds.length = 3
      · rw [decide_eq_true q] at i2
        match ds, q with
        | [x, y, z], _ =>
          have hx := hd x (by simp)
          have hy := hd y (by simp)
          have hz := hd z (by simp)
          have i3 : nT (orT (bT (opE isO (opE ixD (vE 0) (cE (.int 0))) (cE .non))) (bT (callE c_is_name (kA (opE ixD (vE 0) (cE (.int 0))) (nA))))) [some (.tup [x, y, z])] hc = .ok (!(isNon x || nB x)) hc := nTO (orB (bO (opO (a := x) (b := .non) rfl rfl isN)) (fun _ => bO (callO (k1 (a := x) rfl) (name_pd hx))))
          have g := guardF (orB i1 fun _ => orB i2 fun _ => i3) (fun _ => retO (andEB (callO (k1 (f := opE ixD (vE 0) (cE (.int 1))) (a := y) rfl) (name_pd hy)) (fun _ => callO (k1 (f := opE ixD (vE 0) (cE (.int 2))) (a := z) rfl) (name_pd hz))))
          have : srcB (.tup [x, y, z]) = (!((!true) || ((!true) || !(isNon x || nB x))) && (nB y && nB z)) := by
            simp only [srcB, Bool.not_true, Bool.false_or, Bool.not_not]
          rw [this]
          exact fnO rfl g
      · rw [decide_eq_false q] at i2
        have : srcB (.tup ds) = false := by
          match ds, q with
          | [], _ => rfl
          | [_], _ => rfl
          | [_, _], _ => rfl
          | [_, _, _], q => exact absurd rfl q
          | _ :: _ :: _ :: _ :: _, _ => rfl
        rw [this]
        exact fnO rfl (seqR (ifY (orN i1 (orY i2)) (retO rfl)))
    | _ => cases ht
/-! ### conditions -/
def askB : D → Bool
  | .tup [a, b, c] => if isS "equal" a then colB b && colB c else isS "in" a && (colB b && valsB c)
  | _ => false
theorem askB_no {d : D} (e : isTup d = false) : askB d = false := by cases d <;> first | rfl | cases e
theorem ask_pd {d : D} (h : pdB n d = true) (hn : n ≤ 60) : c_is_condition [d] hc = .ok (.bl (askB d)) hc := by
  have ok1 : PyData.strOk "equal" = true := by decide +kernel
  have ok2 : PyData.strOk "in" = true := by decide +kernel
  have it := isiT (hc := hc) h
  have none3 : (∀ k, seqP 3 k hc d = some none) → c_is_condition [d] hc = .ok (.bl false) hc := fun p3 =>
    fnO rfl ((seqN (matO (d := d) rfl ((caseN (p3 _)).trans ((caseN (p3 _)).trans rfl)))).trans (retO rfl))
  cases es : seqOfD d with
  | none =>
    have : askB d = false := by cases d <;> first | rfl | cases es
    rw [this]
    exact none3 (fun k => seqP_no h es)
  | some ds =>
    obtain ⟨m, rfl, hd⟩ := pd_seq h es
    by_cases q3 : ds.length = 3
    · match ds, q3 with
      | [a, b, c], _ =>
        have ha := hd a (by simp)
        have hb := hd b (by simp)
        have hcc := hd c (by simp)
        have p3 := pat3 (hc := hc) (s := "equal") (i := 1) (j := 2) es ha (by omega) ok1
        have p4 := pat3 (hc := hc) (s := "in") (i := 1) (j := 3) es ha (by omega) ok2
        cases z : isS "equal" a with
        | true =>
          rw [z] at p3
          have : askB d = (isTup d && (colB b && colB c)) := by
            cases tt : isTup d with
            | false => rw [askB_no tt]; rfl
            | true => rw [isTup_seq es tt]; simp only [askB, z, if_true, Bool.true_and]
          rw [this]
          exact fnO rfl (seqR (matO (d := d) rfl (caseY p3 (retO (andEB (unO (a := d) rfl it) fun _ => andEB (callO (k1 (a := b) rfl) (col_pd hb)) fun _ => callO (k1 (a := c) rfl) (col_pd hcc))))))
        | false =>
          rw [z] at p3
          cases y : isS "in" a with
          | true =>
            rw [y] at p4
            have : askB d = (isTup d && (colB b && valsB c)) := by
              cases tt : isTup d with
              | false => rw [askB_no tt]; rfl
              | true => rw [isTup_seq es tt]; simp only [askB, z, y, Bool.false_eq_true, if_false, Bool.true_and]
            rw [this]
            exact fnO rfl (seqR (matO (d := d) rfl ((caseN p3).trans (caseY p4 (retO (andEB (unO (a := d) rfl it) fun _ => andEB (callO (k1 (a := b) rfl) (col_pd hb)) fun _ => callO (k1 (a := c) rfl) (values_pd hcc (by omega))))))))
          | false =>
            rw [y] at p4
            have : askB d = false := by
              cases tt : isTup d with
              | false => rw [askB_no tt]
              | true => rw [isTup_seq es tt]; simp only [askB, z, y, Bool.false_eq_true, if_false, Bool.false_and]
            rw [this]
            exact fnO rfl ((seqN (matO (d := d) rfl ((caseN p3).trans ((caseN p4).trans rfl)))).trans (retO rfl))
    · have : askB d = false := by
        cases tt : isTup d with
        | false => rw [askB_no tt]
        | true =>
          rw [isTup_seq es tt]
          match ds, q3 with
          | [], _ => rfl
          | [_], _ => rfl
          | [_, _], _ => rfl
          | [_, _, _], q => exact absurd rfl q
          | _ :: _ :: _ :: _ :: _, _ => rfl
      rw [this]
      exact none3 (fun k => patL es q3)
/-! ### rows -/
def rowB (P : D → Bool) (lo hi : Nat) : D → Bool
  | .tup ds => (decide (lo ≤ ds.length) && decide (ds.length ≤ hi)) && ds.all P
  | _ => false
theorem row_pd {P : D → Bool} {cl : List D → Hc → Res D} {j lo hi : Nat} {L Hh : Int} {d : D} (hL : L = (lo : Int)) (hH : Hh = (hi : Int)) (hj : dsp_1 j = some cl) (hP : ∀ m x, m + 1 ≤ n → pdB m x = true → cl [x] hc = .ok (.bl (P x)) hc) (h : pdB n d = true) : c_is_row_of [d, .int L, .int Hh, .fn j] hc = .ok (.bl (rowB P lo hi d)) hc := by
  subst hL hH
  have it := isiT (hc := hc) h
  cases ht : isTup d with
  | false =>
    rw [ht] at it
    have : rowB P lo hi d = false := by cases d <;> first | rfl | cases ht
    rw [this]
    exact fnO rfl (retO (andEF (unO (a := d) rfl it)))
  | true =>
    rw [ht] at it
    cases d with
    | tup ds =>
      obtain ⟨m, rfl, hl, hd⟩ := pd_tup h
      have ch : chE leO leO (vE 1) (blE lenD (kA (vE 0) (nA))) (vE 2) [some (.tup ds), some (.int (lo : Int)), some (.int (hi : Int)), some (.fn j), none] hc = .ok (.bl (decide (lo ≤ ds.length) && decide (ds.length ≤ hi))) hc := by
        have ln : blE lenD (kA (vE 0) (nA)) [some (.tup ds), some (.int (lo : Int)), some (.int (hi : Int)), some (.fn j), none] hc = .ok (.int (ds.length : Int)) hc := blO (k1 (a := .tup ds) rfl) rfl
        have h1 : leO hc (.int (lo : Int)) (.int (ds.length : Int)) = some (.bl (decide (lo ≤ ds.length))) := by
          show some (D.bl (decide ((lo : Int) ≤ (ds.length : Int)))) = _
          congr 2
          rw [decide_eq_decide]; omega
        have h2 : leO hc (.int (ds.length : Int)) (.int (hi : Int)) = some (.bl (decide (ds.length ≤ hi))) := by
          show some (D.bl (decide ((ds.length : Int) ≤ (hi : Int)))) = _
          congr 2
          rw [decide_eq_decide]; omega
        by_cases q : lo ≤ ds.length
        · rw [decide_eq_true q] at h1 ⊢
          rw [Bool.true_and]
          exact chY (a := .int (lo : Int)) rfl ln h1 (c := .int (hi : Int)) rfl h2
        · rw [decide_eq_false q] at h1 ⊢
          exact chN (a := .int (lo : Int)) rfl ln h1
      have e6 := allB (hc := hc) (sl := [some (.tup ds), some (.int (lo : Int)), some (.int (hi : Int)), some (.fn j), none]) (i := 4) (fi := vE 0) (ds := ds) (P := P) (fe := clE 3 dsp_1 (kA (vE 4) (nA))) rfl (by omega) (fun t ht => ⟨[some (.tup ds), some (.int (lo : Int)), some (.int (hi : Int)), some (.fn j), some t], rfl, by
        show (match dsp_1 j with
          | some cl => (kA (vE 4) (nA) [some (.tup ds), some (.int (lo : Int)), some (.int (hi : Int)), some (.fn j), some t] hc).bind cl
          | none => .bad) = _
        rw [hj]
        exact hP m t (Nat.le_refl _) (hd t ht)⟩)
      exact fnO rfl (retO (andEY (unO (a := .tup ds) rfl it) (andEB ch fun _ => e6)))
    | _ => cases ht
/-! ### labels -/
def labD : D → Str
  | .tup [_, _, .str x] => x
  | _ => ""
def keysU : List Str → List Str → List Str
  | [], ks => ks
  | l :: ls, ks => keysU ls (if l ∈ ks then ks else ks ++ [l])
theorem keysU_len : ∀ (ls ks : List Str), ks.Nodup → (keysU ls ks).length ≤ ks.length + ls.length ∧ ((keysU ls ks).length = ks.length + ls.length ↔ (ks ++ ls).Nodup)
  | [], ks, h => by simp [keysU, h]
  | l :: ls, ks, h => by
    unfold keysU
    by_cases q : l ∈ ks
    · rw [if_pos q]
      obtain ⟨h1, h2⟩ := keysU_len ls ks h
      refine ⟨by rw [List.length_cons]; omega, ⟨fun e => ?_, fun e => ?_⟩⟩
      · rw [List.length_cons] at e; omega
      · rw [List.nodup_append] at e
        exact absurd rfl (e.2.2 l q l List.mem_cons_self)
    · rw [if_neg q]
      have hn : (ks ++ [l]).Nodup := by
        rw [List.nodup_append]
        refine ⟨h, by simp, fun a ha b hb => ?_⟩
        have := List.mem_singleton.mp hb
        subst this
        exact fun e => q (e ▸ ha)
      obtain ⟨h1, h2⟩ := keysU_len ls (ks ++ [l]) hn
      rw [List.length_append, List.append_assoc] at h2
      rw [List.length_append] at h1
      have e1 : [l].length = 1 := rfl
      rw [e1] at h1 h2
      refine ⟨by rw [List.length_cons]; omega, ?_⟩
      rw [List.length_cons, show ks.length + (ls.length + 1) = ks.length + 1 + ls.length by omega]
      exact h2
theorem keys_put {kvs : List (Key × D)} {ks : List Str} {l : Str} {v : D} (h : kvs.map (·.1) = ks.map Sum.inr) : (putKD kvs (.inr l) v).map (·.1) = (if l ∈ ks then ks else ks ++ [l]).map Sum.inr := by
  have an : (kvs.any fun kv => decide (kv.1 = .inr l)) = decide (l ∈ ks) := by
    have e1 : (kvs.any fun kv => decide (kv.1 = .inr l)) = (kvs.map (·.1)).any fun k => decide (k = .inr l) := by rw [List.any_map]; rfl
    rw [e1, h, List.any_map]
    induction ks generalizing kvs with
    | nil => rfl
    | cons k ks ih =>
      have hh : ∀ (ks : List Str), ks.any ((fun k : Key => decide (k = .inr l)) ∘ Sum.inr) = decide (l ∈ ks) := fun ks => by
        induction ks with
        | nil => rfl
        | cons a ks ih =>
          rw [List.any_cons, ih]
          simp only [Function.comp, List.mem_cons]
          by_cases q : a = l
          · subst q; simp
          · have : ¬ l = a := fun e => q e.symm
            simp [q, this]
      exact hh (k :: ks)
  unfold putKD
  rw [an]
  by_cases q : l ∈ ks
  · rw [if_pos (by rw [decide_eq_true q]), if_pos q, List.map_map, ← h]
    refine List.map_congr_left fun kv _ => ?_
    simp only [Function.comp]
    split
    · rfl
    · rfl
  · rw [if_neg (by rw [decide_eq_false q]; decide), if_neg q, List.map_append, h, List.map_append]
    rfl
theorem labels_map {a : Option D} : ∀ {ds : List D} (kvs : List (Key × D)) (ks : List Str), (∀ d ∈ ds, srcB d = true) → kvs.map (·.1) = ks.map Sum.inr → kvs.length + ds.length ≤ 100000 →
    ∃ kvs', mapD (nmG 1) yT (opE ixD (vE 1) (cE (.int 2))) (cE (.bl true)) [a, none] ds kvs hc = .ok kvs' hc ∧ kvs'.map (·.1) = (keysU (ds.map labD) ks).map Sum.inr
  | [], kvs, ks, h, hk, hl => ⟨kvs, rfl, hk⟩
  | d :: ds, kvs, ks, h, hk, hl => by
    have h1 := h d List.mem_cons_self
    obtain ⟨x, y, l, rfl, hl2⟩ : ∃ x y l, d = .tup [x, y, .str l] ∧ labD d = l := by
      unfold srcB at h1
      split at h1
      · rename_i x y z
        rw [Bool.and_eq_true, Bool.and_eq_true] at h1
        cases z with
        | str l => exact ⟨x, y, l, rfl, rfl⟩
        | _ => simp [nB] at h1
      · cases h1
    have kp := keys_put (kvs := kvs) (ks := ks) (l := l) (v := .bl true) hk
    have ln : (putKD kvs (.inr l) (.bl true)).length ≤ kvs.length + 1 := by
      have := congrArg List.length kp
      rw [List.length_map, List.length_map] at this
      have := congrArg List.length hk
      rw [List.length_map, List.length_map] at this
      split at * <;> simp_all
    rw [List.length_cons] at hl
    obtain ⟨kvs', e1, e2⟩ := labels_map (a := a) (putKD kvs (.inr l) (.bl true)) _ (fun e he => h e (List.mem_cons_of_mem _ he)) kp (by omega)
    refine ⟨kvs', ?_, ?_⟩
    · have sz : kvs.length < sizeLine := by rw [sizeLine_eq]; omega
      have ix : opE ixD (vE 1) (cE (.int 2)) [a, some (.tup [x, y, .str l])] hc = .ok (.str l) hc := opO (a := .tup [x, y, .str l]) (b := .int 2) rfl rfl rfl
      have f : nmG 1 (.tup [x, y, .str l]) [a, none] = some [a, some (.tup [x, y, .str l])] := rfl
      simp only [mapD, f, yT, Res.bind, if_true, ix, cE, Bo.keyOf, sz, e1]
    · rw [e2, List.map_cons, hl2]
      rfl
/-! ### statements -/
def labsB : D → Bool
  | .tup ss => decide ((ss.map labD).Nodup)
  | _ => false
def stmB : D → Bool
  | .tup [b, ts, ss, cs] => isBl b && (rowB toldB 1 8 ts && rowB srcB 1 4 ss) && (labsB ss && rowB askB 0 8 cs)
  | _ => false
theorem stm_pd {d : D} (h : pdB n d = true) (hn : n ≤ 60) : c_is_statement [d] hc = .ok (.bl (stmB d)) hc := by
  have i1 := notTup (hc := hc) (sl := [some d, none]) (i := 0) h rfl
  cases ht : isTup d with
  | false =>
    rw [ht] at i1
    have : stmB d = false := by cases d <;> first | rfl | cases ht
    rw [this]
    exact fnO rfl (seqR (ifY (orY i1) (retO rfl)))
  | true =>
    rw [ht] at i1
    cases d with
    | tup ds =>
      obtain ⟨m, rfl, hl, hd⟩ := pd_tup h
      have i2 := lenNe (hc := hc) (sl := [some (.tup ds), none]) (i := 0) (m := 4) (I := 4) (ds := ds) rfl rfl
      by_cases q : ds.length = 4
      · rw [decide_eq_true q] at i2
        match ds, q with
        | [b, ts, ss, cs], _ =>
          have hb := hd b (by simp)
          have hts := hd ts (by simp)
          have hss := hd ss (by simp)
          have hcs := hd cs (by simp)
          have i3 : nT (bT (unE (isiD .bl) (opE ixD (vE 0) (cE (.int 0))))) [some (.tup [b, ts, ss, cs]), none] hc = .ok (!isBl b) hc := nTO (bO (unO (opO (a := .tup [b, ts, ss, cs]) (b := .int 0) rfl rfl rfl) (isiB hb)))
          have r1 : callE c_is_row_of (kA (opE ixD (vE 0) (cE (.int 1))) (kA (cE (.int 1)) (kA (cE (.int 8)) (kA (cE (.fn 4)) (nA))))) [some (.tup [b, ts, ss, cs]), none] hc = .ok (.bl (rowB toldB 1 8 ts)) hc := callO (as := [ts, .int 1, .int 8, .fn 4]) (hc1 := hc) rfl (row_pd (n := m) (lo := 1) (hi := 8) rfl rfl rfl (fun k x hk hx => told_pd hx (by omega)) hts)
          have r2 : callE c_is_row_of (kA (opE ixD (vE 0) (cE (.int 2))) (kA (cE (.int 1)) (kA (cE (.int 4)) (kA (cE (.fn 5)) (nA))))) [some (.tup [b, ts, ss, cs]), none] hc = .ok (.bl (rowB srcB 1 4 ss)) hc := callO (as := [ss, .int 1, .int 4, .fn 5]) (hc1 := hc) rfl (row_pd (n := m) (lo := 1) (hi := 4) rfl rfl rfl (fun k x hk hx => source_pd hx) hss)
          have r3 : callE c_is_row_of (kA (opE ixD (vE 0) (cE (.int 3))) (kA (cE (.int 0)) (kA (cE (.int 8)) (kA (cE (.fn 3)) (nA))))) [some (.tup [b, ts, ss, cs]), none] hc = .ok (.bl (rowB askB 0 8 cs)) hc := callO (as := [cs, .int 0, .int 8, .fn 3]) (hc1 := hc) rfl (row_pd (n := m) (lo := 0) (hi := 8) rfl rfl rfl (fun k x hk hx => ask_pd hx (by omega)) hcs)
          have lb : rowB srcB 1 4 ss = true → bT (opE ltO (blE lenX (kA (dcE [1] (nmG 1) (itE itA (opE ixD (vE 0) (cE (.int 2)))) (yT) (opE ixD (vE 1) (cE (.int 2))) (cE (.bl true))) (nA))) (blE lenD (kA (opE ixD (vE 0) (cE (.int 2))) (nA)))) [some (.tup [b, ts, ss, cs]), none] hc = .ok (!labsB ss) hc := fun hr => by
            cases ss with
            | tup ss =>
              simp only [rowB, Bool.and_eq_true, decide_eq_true_eq, List.all_eq_true] at hr
              obtain ⟨kvs', e1, e2⟩ := labels_map (hc := hc) (a := some (.tup [b, ts, .tup ss, cs])) (ds := ss) [] [] hr.2 rfl (by simp; omega)
              have dc : dcE [1] (nmG 1) (itE itA (opE ixD (vE 0) (cE (.int 2)))) (yT) (opE ixD (vE 1) (cE (.int 2))) (cE (.bl true)) [some (.tup [b, ts, .tup ss, cs]), none] hc = .ok (.dct (kvs'.map (·.1)) (kvs'.map (·.2))) hc := by
                unfold dcE
                rw [itO (d := .tup ss) (ds := ss) (hc1 := hc) (opO (a := .tup [b, ts, .tup ss, cs]) (b := .int 2) rfl rfl rfl) rfl]
                have w : wipeS [some (.tup [b, ts, .tup ss, cs]), none] [1] = [some (.tup [b, ts, .tup ss, cs]), none] := rfl
                simp only [Res.bind, w, e1]
              have kl : (kvs'.map (·.1)).length = (keysU (ss.map labD) []).length := by rw [e2, List.length_map]
              obtain ⟨k1', k2⟩ := keysU_len (ss.map labD) [] List.nodup_nil
              rw [List.length_nil, Nat.zero_add, List.length_map] at k1' k2
              rw [List.nil_append] at k2
              refine bO (opO (a := .int ((kvs'.map (·.1)).length : Int)) (b := .int (ss.length : Int)) (blO (k1 dc) rfl) (blO (k1 (opO (a := .tup [b, ts, .tup ss, cs]) (b := .int 2) (hc1 := hc) rfl rfl rfl)) rfl) ?_)
              show some (D.bl (decide (((kvs'.map (·.1)).length : Int) < (ss.length : Int)))) = _
              congr 2
              rw [kl]
              show _ = !decide ((ss.map labD).Nodup)
              by_cases hnd : (ss.map labD).Nodup
              · rw [decide_eq_true hnd, decide_eq_false (by have := k2.mpr hnd; omega)]; rfl
              · rw [decide_eq_false hnd, decide_eq_true (by
                  have : ¬ (keysU (ss.map labD) []).length = ss.length := fun e => hnd (k2.mp e)
                  omega)]; rfl
            | _ => cases hr
          have g2 := guardF (orB (nTO (bO r1)) fun _ => nTO (bO r2)) (fun hg => guardF (lb (by
            cases z : rowB srcB 1 4 ss with
            | true => rfl
            | false => rw [z] at hg; simp at hg)) fun _ => retO r3)
          have g := guardF (orB i1 fun _ => orB i2 fun _ => i3) (fun _ => g2)
          have : stmB (.tup [b, ts, ss, cs]) = (!((!true) || ((!true) || !isBl b)) && (!((!rowB toldB 1 8 ts) || !rowB srcB 1 4 ss) && (!(!labsB ss) && rowB askB 0 8 cs))) := by
            simp only [stmB, Bool.not_true, Bool.false_or, Bool.not_or, Bool.not_not, Bool.and_assoc]
          rw [this]
          exact fnO rfl g
      · rw [decide_eq_false q] at i2
        have : stmB (.tup ds) = false := by
          match ds, q with
          | [], _ => rfl
          | [_], _ => rfl
          | [_, _], _ => rfl
          | [_, _, _], _ => rfl
          | [_, _, _, _], q => exact absurd rfl q
          | _ :: _ :: _ :: _ :: _ :: _, _ => rfl
        rw [this]
        exact fnO rfl (seqR (ifY (orN i1 (orY i2)) (retO rfl)))
    | _ => cases ht
end
end Rdr

set_option Elab.async false
set_option linter.all false
set_option maxRecDepth 100000
set_option maxHeartbeats 4000000
set_option autoImplicit false
/-! write: the text of a statement (printed by mkwr.py out of k10's texts). -/
namespace Wr
open PySem PySem.Spec PyProof.Rows L2 Bo
open Rdr (c_write_column c_write_term c_write_told c_write_source c_write_values c_write_condition c_write)
/-- None or a text -/
def colD (l : Option Str) (n : Str) : D := .tup [lD l, .str n]
def colT (l : Option Str) (n : Str) : Str := match l with
  | none => n
  | some l => l ++ "." ++ n
/-- signs that are small -/
theorem colT_len {l : Option Str} {n : Str} (hl : ShO l) (hn : Sh n) : (colT l n).length ≤ 81 := by
  cases l with
  | none => have : n.length ≤ 40 := (hn).1; show n.length ≤ 81; omega
  | some x =>
    have h1 : x.length ≤ 40 := (hl x rfl).1
    have h2 : n.length ≤ 40 := (hn).1
    show (x ++ "." ++ n).length ≤ 81
    rw [app_len, app_len, dot_len]
    omega
section
variable {hc : Hc}
theorem col_w {l : Option Str} {n : Str} (hl : ShO l) (hn : Sh n) : c_write_column [colD l n] hc = .ok (.str (colT l n)) hc := by
  have h2 : n.length ≤ 40 := (hn).1
  cases l with
  | none => exact fnO rfl (retO (ifeY (bO (opO (a := .non) (b := .non) rfl rfl rfl)) rfl))
  | some x =>
    have h1 : x.length ≤ 40 := (hl x rfl).1
    have e : jsR [unE fmtD (opE ixD (vE 0) (cE (.int 0))), cE (.str "."), unE fmtD (opE ixD (vE 0) (cE (.int 1)))] Str.empty [some (colD (some x) n)] hc = .ok (.str (Str.empty ++ x ++ "." ++ n)) hc :=
      jsC (unO (a := .str x) rfl (fmt_str (by omega))) (by show 0 + _ ≤ _; omega) (jsC (y := ".") rfl (by rw [app_len, dot_len]; show 0 + _ + _ ≤ _; omega) (jsC (unO (a := .str n) rfl (fmt_str (by omega))) (by rw [app_len, app_len, dot_len]; show 0 + _ + _ + _ ≤ _; omega) jsN))
    rw [empty_app] at e
    exact fnO rfl (retO (ifeN (bO (opO (a := .str x) (b := .non) rfl rfl rfl)) e))
end
/-! ### terms: what is a term, with its text; n: how deep -/
inductive TmR : Nat → D → Str → Prop
  | lit {n : Nat} {x : Str} : Sh x → TmR n (.str x) ("'" ++ x ++ "'")
  | col {n : Nat} {l : Option Str} {x : Str} : ShO l → Sh x → TmR n (colD l x) (colT l x)
  | call {n : Nat} {s : Option Str} {x : Str} {ps : List (D × Str)} : ShO s → Sh x → ps.length ≤ 2 → (∀ p ∈ ps, TmR n p.1 p.2) → TmR (n + 1) (.tup [.str "call", lD s, .str x, .tup (ps.map (·.1))]) (colT s x ++ "(" ++ Str.join ", " (ps.map (·.2)) ++ ")")
def tmB : Nat → Nat
  | 0 => 100
  | n + 1 => 2 * tmB n + 100
theorem tm_len {n : Nat} {d : D} {t : Str} (h : TmR n d t) : t.length ≤ tmB n := by
  have b0 : ∀ n, 100 ≤ tmB n := fun n => by
    cases n with
    | zero => exact Nat.le_refl _
    | succ n => show 100 ≤ 2 * tmB n + 100; omega
  induction h with
  | @lit n x hx =>
    have h1 : x.length ≤ 40 := (hx).1
    have := b0 n
    rw [app_len, app_len, q_len]
    omega
  | @col n l x hl hx =>
    have := colT_len hl hx
    have := b0 n
    omega
  | @call n s x ps hs hx hl hp ih =>
    have h1 := colT_len hs hx
    have h2 := joinLen ", " (ps.map (·.2))
    have h3 : ((ps.map (·.2)).map (·.length)).sum ≤ tmB n * (ps.map (·.2)).length := sum_le fun y hy => by
      obtain ⟨p, hp', rfl⟩ := List.mem_map.mp hy
      exact ih p hp'
    rw [List.length_map] at h2 h3
    rw [cm_len] at h2
    have h4 : tmB n * ps.length ≤ tmB n * 2 := Nat.mul_le_mul_left _ hl
    rw [app_len, app_len, app_len]
    show _ + 1 + _ + 1 ≤ 2 * tmB n + 100
    omega
theorem tmB_le : ∀ n, n ≤ 8 → tmB n ≤ 100000 := by decide
section
variable {hc : Hc}
theorem args_ok {self : List D → Hc → Res D} {ps : List (D × Str)} {a b : Option D} (h : ∀ p ∈ ps, self [p.1] hc = .ok (.str p.2) hc) : mapC (nmG 2) yT (callE self (kA (vE 2) (nA))) [a, b, none] (ps.map (·.1)) hc = .ok ((ps.map (·.2)).map D.str) hc := by
  induction ps with
  | nil => rfl
  | cons p ps ih =>
    have h1 := h p List.mem_cons_self
    have h2 := ih fun q hq => h q (List.mem_cons_of_mem _ hq)
    have e : callE self (kA (vE 2) (nA)) [a, b, some p.1] hc = .ok (.str p.2) hc := callO (k1 rfl) h1
    have f : nmG 2 p.1 [a, b, none] = some [a, b, some p.1] := rfl
    simp only [List.map_cons, mapC, f, yT, Res.bind, if_true, e, h2]
theorem quoted {x : Str} {sl : Sl} {i : Nat} (e : sl[i]? = some (some (.str x))) (h : x.length ≤ 1000) : jsR [cE (.str "'"), unE fmtD (vE i), cE (.str "'")] Str.empty sl hc = .ok (.str ("'" ++ x ++ "'")) hc := by
  have := jsC (hc := hc) (sl := sl) (f := cE (.str "'")) (fs := [unE fmtD (vE i), cE (.str "'")]) (acc := Str.empty) (y := "'") rfl (by rw [q_len]; show 0 + _ ≤ _; omega) (jsC (unO (vO e) (fmt_str (by omega))) (by rw [app_len, q_len]; show 0 + _ + _ ≤ _; omega) (jsC (y := "'") rfl (by rw [app_len, app_len, q_len]; show 0 + _ + _ + _ ≤ _; omega) jsN))
  rw [empty_app] at this
  exact this
theorem term_w : ∀ {f n : Nat} {d : D} {t : Str}, TmR n d t → n < f → n ≤ 8 → c_write_term f [d] hc = .ok (.str t) hc
  | 0, n, d, t, h, hf, hn => absurd hf (Nat.not_lt_zero _)
  | f + 1, n, d, t, h, hf, hn => by
    cases h with
    | @lit _ x hx =>
      have h1 : x.length ≤ 40 := (hx).1
      exact fnO rfl (seqR (ifY (bO (unO (a := .str x) rfl rfl)) (retO (quoted (i := 0) rfl (by omega)))))
    | @col _ l x hl hx =>
      exact fnO rfl ((seqN (ifN (bO (unO (a := colD l x) rfl rfl)) rfl)).trans (seqR (ifY (bO (opO (blO (k1 (a := colD l x) rfl) rfl) rfl rfl)) (retO (callO (k1 (a := colD l x) rfl) (col_w hl hx))))))
    | @call m s x ps hs hx hl hp =>
      have hb : tmB m ≤ 100000 := tmB_le m (by omega)
      have ar := args_ok (self := c_write_term f) (ps := ps) (hc := hc) (a := some (.tup [.str "call", lD s, .str x, .tup (ps.map (·.1))])) (b := none) fun p hp' => term_w (hp p hp') (by omega) (by omega)
      have sm : ((ps.map (·.2)).map (·.length)).sum ≤ tmB m * (ps.map (·.2)).length := sum_le fun y hy => by
        obtain ⟨p, hp', rfl⟩ := List.mem_map.mp hy
        exact tm_len (hp p hp')
      rw [List.length_map] at sm
      have h4 : tmB m * ps.length ≤ tmB m * 2 := Nat.mul_le_mul_left _ hl
      have jl := joinLen ", " (ps.map (·.2))
      rw [List.length_map, cm_len] at jl
      have cl := colT_len hs hx
      have j : joinE (cE (.str ", ")) (lcE [2] (nmG 2) (itE itA (opE ixD (vE 0) (cE (.int 3)))) (yT) (callE (c_write_term f) (kA (vE 2) (nA)))) [some (.tup [.str "call", lD s, .str x, .tup (ps.map (·.1))]), none, none] hc = .ok (.str (Str.join ", " (ps.map (·.2)))) hc :=
        jO (hc1 := hc) rfl (lcO (ds := ps.map fun p : D × Str => p.1) (hc1 := hc) (itO (d := .tup (ps.map fun p : D × Str => p.1)) rfl rfl) ar (by rw [List.length_map, List.length_map]; omega)) (join_lst (by rw [List.length_map, cm_len]; omega))
      refine fnO rfl ((seqN (ifN (bO (unO (a := .tup [.str "call", lD s, .str x, .tup (ps.map (·.1))]) rfl rfl)) rfl)).trans ((seqN (ifN (bO (opO (blO (k1 (a := .tup [.str "call", lD s, .str x, .tup (ps.map (·.1))]) rfl) rfl) rfl rfl)) rfl)).trans ((seqN (asgO j)).trans (retO ?_))))
      have := jsC (hc := hc) (sl := [some (.tup [.str "call", lD s, .str x, .tup (ps.map (·.1))]), some (.str (Str.join ", " (ps.map (·.2)))), none]) (f := unE fmtD (callE c_write_column (kA (slE (vE 0) (sO (cE (.int 1))) (sO (cE (.int 3)))) (nA)))) (fs := [cE (.str "("), unE fmtD (vE 1), cE (.str ")")]) (acc := Str.empty)
        (unO (callO (k1 (slO (hc2 := hc) (hc3 := hc) (d := .tup [.str "call", lD s, .str x, .tup (ps.map (·.1))]) (lo := some 1) (hi := some 3) (a := colD s x) rfl rfl rfl rfl)) (col_w hs hx)) (fmt_str (by omega))) (by show 0 + _ ≤ _; omega)
        (jsC (y := "(") rfl (by rw [app_len]; show 0 + _ + 1 ≤ _; omega) (jsC (y := Str.join ", " (ps.map (·.2))) (unO (a := .str (Str.join ", " (ps.map (·.2)))) rfl (fmt_str (by omega))) (by rw [app_len, app_len]; show 0 + _ + 1 + _ ≤ _; omega) (jsC (y := ")") rfl (by rw [app_len, app_len, app_len]; show 0 + _ + 1 + _ + 1 ≤ _; omega) jsN)))
      rw [empty_app] at this
      exact this
end
section
variable {p : PMt} {tt : Sl → Hc → Res Bool} {fb : Sl → Hc → RS} {k : CMt} {d : D} {sl : Sl} {hc hc1 : Hc} {bs : Bs} {r : RS}
theorem caseN (e : p hc d = some none) : caseC p tt fb k d sl hc = k d sl hc := by
  unfold caseC
  rw [e]
theorem caseY (e : p hc d = some (some bs)) (e2 : tt (bindAll sl bs) hc = .ok true hc1) (e3 : fb (bindAll sl bs) hc1 = r) : caseC p tt fb k d sl hc = r := by
  unfold caseC
  rw [e]
  simp only [Res.toS, e2, if_true, e3]
theorem caseG (e : p hc d = some (some bs)) (e2 : tt (bindAll sl bs) hc = .ok false hc1) : caseC p tt fb k d sl hc = k d (bindAll sl bs) hc1 := by
  unfold caseC
  rw [e]
  simp only [Res.toS, e2]
  rfl
theorem valY (x : Str) : valP x hc (.str x) = some (some []) := by
  have : eqD hc (.str x) (.str x) = some (decide (x = x)) := rfl
  unfold valP
  rw [this]
  simp
theorem valN {x y : Str} (h : x ≠ y) : valP y hc (.str x) = some none := by
  have : eqD hc (.str x) (.str y) = some (decide (x = y)) := rfl
  unfold valP
  rw [this]
  simp [h]
end
/-! ### what is told -/
inductive ToR : D → Str → Prop
  | star {l : Str} : Sh l → ToR (.tup [.str "star", .str l]) (l ++ ".*")
  | same {l : Option Str} {x : Str} : ShO l → Sh x → ToR (.tup [.str "column", colD l x, .str x]) (colT l x)
  | other {l : Option Str} {x y : Str} : ShO l → Sh x → Sh y → x ≠ y → ToR (.tup [.str "column", colD l x, .str y]) (colT l x ++ " as " ++ y)
  | term {n : Nat} {d : D} {t y : Str} : TmR n d t → n ≤ 8 → Sh y → ToR (.tup [.str "term", d, .str y]) (t ++ " as " ++ y)
theorem as_len : Str.length " as " = 4 := rfl
theorem st_len : Str.length ".*" = 2 := rfl
theorem to_len {d : D} {t : Str} (h : ToR d t) : t.length ≤ 110000 := by
  cases h with
  | star h => have : _ ≤ 40 := (h).1; rw [app_len, st_len]; omega
  | same h1 h2 => have := colT_len h1 h2; omega
  | other h1 h2 h3 _ => have := colT_len h1 h2; have : _ ≤ 40 := (h3).1; rw [app_len, app_len, as_len]; omega
  | term h1 h2 h3 => have := tm_len h1; have := tmB_le _ h2; have : _ ≤ 40 := (h3).1; rw [app_len, app_len, as_len]; omega
theorem ne_sc : Str.ofString "star" ≠ Str.ofString "column" := by decide +kernel
theorem ne_tc : Str.ofString "term" ≠ Str.ofString "column" := by decide +kernel
theorem ne_ts : Str.ofString "term" ≠ Str.ofString "star" := by decide +kernel
theorem ne_cs : Str.ofString "column" ≠ Str.ofString "star" := by decide +kernel
theorem ne_ie : Str.ofString "in" ≠ Str.ofString "equal" := by decide +kernel
section
variable {hc : Hc}
/-- term as name, by the program -/
theorem as_w {n : Nat} {k d : D} {t y : Str} (h : TmR n d t) (hn : n ≤ 8) (hy : Sh y) (a b c : Option D) : fsE [unE fmtD (callE (c_write_term 20) (kA (opE ixD (vE 0) (cE (.int 1))) (nA))), cE (.str " as "), unE fmtD (opE ixD (vE 0) (cE (.int 2)))] [some (.tup [k, d, .str y]), a, b, c] hc = .ok (.str (t ++ " as " ++ y)) hc := by
  have h1 := tm_len h
  have h2 := tmB_le _ hn
  have h3 : y.length ≤ 40 := (hy).1
  have := jsC (hc := hc) (sl := [some (.tup [k, d, .str y]), a, b, c]) (f := unE fmtD (callE (c_write_term 20) (kA (opE ixD (vE 0) (cE (.int 1))) (nA)))) (fs := [cE (.str " as "), unE fmtD (opE ixD (vE 0) (cE (.int 2)))]) (acc := Str.empty)
    (unO (callO (k1 (a := d) rfl) (term_w h (by omega) hn)) (fmt_str (by omega))) (by show 0 + _ ≤ _; omega) (jsC (y := " as ") rfl (by rw [app_len, as_len]; show 0 + _ + _ ≤ _; omega) (jsC (y := y) (unO (a := .str y) rfl (fmt_str (by omega))) (by rw [app_len, app_len, as_len]; show 0 + _ + _ + _ ≤ _; omega) jsN))
  rw [empty_app] at this
  exact this
theorem to_w {d : D} {t : Str} (h : ToR d t) : c_write_told [d] hc = .ok (.str t) hc := by
  cases h with
  | @star l hl =>
    have h1 : l.length ≤ 40 := (hl).1
    have pm : seqP 2 (consP (valP "star") (consP (capP 1) (nilP))) hc (.tup [.str "star", .str l]) = some (some [(1, .str l)]) := by
      show consP (valP "star") (consP (capP 1) (nilP)) hc [.str "star", .str l] = _
      simp only [consP, valY, capP, nilP, Option.map_some, List.append_nil, List.nil_append, List.cons_append]
    have js := jsC (hc := hc) (sl := [some (.tup [.str "star", .str l]), some (.str l), none, none]) (f := unE fmtD (vE 1)) (fs := [cE (.str ".*")]) (acc := Str.empty) (unO (a := .str l) rfl (fmt_str (by omega))) (by show 0 + _ ≤ _; omega) (jsC (y := ".*") rfl (by rw [app_len, st_len]; show 0 + _ + _ ≤ _; omega) jsN)
    rw [empty_app] at js
    exact fnO rfl (seqR (matO (d := .tup [.str "star", .str l]) rfl (caseY pm rfl (retO js))))
  | @same l x hl hx =>
    have pn : seqP 2 (consP (valP "star") (consP (capP 1) (nilP))) hc (.tup [.str "column", colD l x, .str x]) = some none := rfl
    have pm : seqP 3 (consP (valP "column") (consP (seqP 2 (consP (capP 1) (consP (capP 2) (nilP)))) (consP (capP 3) (nilP)))) hc (.tup [.str "column", colD l x, .str x]) = some (some [(1, lD l), (2, .str x), (3, .str x)]) := by
      show consP (valP "column") (consP (seqP 2 (consP (capP 1) (consP (capP 2) (nilP)))) (consP (capP 3) (nilP))) hc [.str "column", colD l x, .str x] = _
      have e : seqP 2 (consP (capP 1) (consP (capP 2) (nilP))) hc (colD l x) = some (some [(1, lD l), (2, .str x)]) := rfl
      simp only [consP, valY, e, capP, nilP, Option.map_some, List.append_nil, List.nil_append, List.cons_append]
    exact fnO rfl (seqR (matO (d := .tup [.str "column", colD l x, .str x]) rfl ((caseN pn).trans (caseY pm (bO (opO (a := .str x) (b := .str x) rfl rfl (eq_same x))) (retO (callO (k1 (a := colD l x) (tupO (as := [lD l, .str x]) rfl (by simp))) (col_w hl hx)))))))
  | @other l x y hl hx hy hne =>
    have pn : seqP 2 (consP (valP "star") (consP (capP 1) (nilP))) hc (.tup [.str "column", colD l x, .str y]) = some none := rfl
    have pm : seqP 3 (consP (valP "column") (consP (seqP 2 (consP (capP 1) (consP (capP 2) (nilP)))) (consP (capP 3) (nilP)))) hc (.tup [.str "column", colD l x, .str y]) = some (some [(1, lD l), (2, .str x), (3, .str y)]) := by
      show consP (valP "column") (consP (seqP 2 (consP (capP 1) (consP (capP 2) (nilP)))) (consP (capP 3) (nilP))) hc [.str "column", colD l x, .str y] = _
      have e : seqP 2 (consP (capP 1) (consP (capP 2) (nilP))) hc (colD l x) = some (some [(1, lD l), (2, .str x)]) := rfl
      simp only [consP, valY, e, capP, nilP, Option.map_some, List.append_nil, List.nil_append, List.cons_append]
    exact fnO rfl ((seqN (matO (d := .tup [.str "column", colD l x, .str y]) rfl ((caseN pn).trans (caseG pm (bO (opO (a := .str x) (b := .str y) rfl rfl (eq_not hne))))))).trans (retO (as_w (TmR.col hl hx) (n := 0) (by omega) hy _ _ _)))
  | @term n d t y h hn hy =>
    have pn : seqP 2 (consP (valP "star") (consP (capP 1) (nilP))) hc (.tup [.str "term", d, .str y]) = some none := rfl
    have pm : seqP 3 (consP (valP "column") (consP (seqP 2 (consP (capP 1) (consP (capP 2) (nilP)))) (consP (capP 3) (nilP)))) hc (.tup [.str "term", d, .str y]) = some none := by
      show consP (valP "column") (consP (seqP 2 (consP (capP 1) (consP (capP 2) (nilP)))) (consP (capP 3) (nilP))) hc [.str "term", d, .str y] = _
      simp only [consP, valN ne_tc]
    exact fnO rfl ((seqN (matO (d := .tup [.str "term", d, .str y]) rfl ((caseN pn).trans (caseN pm)))).trans (retO (as_w h hn hy none none none)))
end
/-! ### sources -/
inductive SrR : D → Str → Prop
  | same {l : Option Str} {x : Str} : ShO l → Sh x → SrR (.tup [lD l, .str x, .str x]) (colT l x)
  | other {l : Option Str} {x y : Str} : ShO l → Sh x → Sh y → x ≠ y → SrR (.tup [lD l, .str x, .str y]) (colT l x ++ " " ++ y)
theorem bl_len : Str.length " " = 1 := rfl
theorem sr_len {d : D} {t : Str} (h : SrR d t) : t.length ≤ 200 := by
  cases h with
  | same h1 h2 => have := colT_len h1 h2; omega
  | other h1 h2 h3 _ => have := colT_len h1 h2; have : _ ≤ 40 := (h3).1; rw [app_len, app_len, bl_len]; omega
section
variable {hc : Hc}
theorem sr_w {d : D} {t : Str} (h : SrR d t) : c_write_source [d] hc = .ok (.str t) hc := by
  cases h with
  | @same l x hl hx =>
    exact fnO rfl ((seqN (asgO (callO (k1 (slO (hc2 := hc) (hc3 := hc) (d := .tup [lD l, .str x, .str x]) (lo := none) (hi := some 2) (a := colD l x) rfl rfl rfl rfl)) (col_w hl hx)))).trans (retO (ifeY (bO (opO (a := .str x) (b := .str x) rfl rfl (eq_same x))) rfl)))
  | @other l x y hl hx hy hne =>
    have h1 := colT_len hl hx
    have h3 : y.length ≤ 40 := (hy).1
    have js := jsC (hc := hc) (sl := [some (.tup [lD l, .str x, .str y]), some (.str (colT l x))]) (f := unE fmtD (vE 1)) (fs := [cE (.str " "), unE fmtD (opE ixD (vE 0) (cE (.int 2)))]) (acc := Str.empty) (unO (a := .str (colT l x)) rfl (fmt_str (by omega))) (by show 0 + _ ≤ _; omega)
      (jsC (y := " ") rfl (by rw [app_len, bl_len]; show 0 + _ + _ ≤ _; omega) (jsC (y := y) (unO (a := .str y) rfl (fmt_str (by omega))) (by rw [app_len, app_len, bl_len]; show 0 + _ + _ + _ ≤ _; omega) jsN))
    rw [empty_app] at js
    exact fnO rfl ((seqN (asgO (callO (k1 (slO (hc2 := hc) (hc3 := hc) (d := .tup [lD l, .str x, .str y]) (lo := none) (hi := some 2) (a := colD l x) rfl rfl rfl rfl)) (col_w hl hx)))).trans (retO (ifeN (bO (opO (a := .str x) (b := .str y) rfl rfl (eq_not hne))) js)))
end
inductive AsR : D → Str → Prop
  | equal {l m : Option Str} {x y : Str} : ShO l → Sh x → ShO m → Sh y → AsR (.tup [.str "equal", colD l x, colD m y]) (colT l x ++ " = " ++ colT m y)
  | among {l : Option Str} {x : Str} {ws : List Str} : ShO l → Sh x → (∀ w ∈ ws, Sh w) → ws.length ≤ 100 → AsR (.tup [.str "in", colD l x, .tup (ws.map D.str)]) (colT l x ++ " in (" ++ Str.join ", " (ws.map quo) ++ ")")
theorem eq_len : Str.length " = " = 3 := rfl
theorem in_len : Str.length " in (" = 5 := rfl
theorem in4_len : Str.length " in " = 4 := rfl
theorem as_len' {d : D} {t : Str} (h : AsR d t) : t.length ≤ 10000 := by
  cases h with
  | equal h1 h2 h3 h4 => have := colT_len h1 h2; have := colT_len h3 h4; rw [app_len, app_len, eq_len]; omega
  | among h1 h2 h3 h4 =>
    have := colT_len h1 h2
    have := joinq_len h3
    rw [app_len, app_len, app_len, in_len]
    show _ + _ + _ + 1 ≤ _
    omega
section
variable {hc : Hc}
theorem values_w {ws : List Str} (hw : ∀ w ∈ ws, Sh w) (hl : ws.length ≤ 100) : c_write_values [.tup (ws.map D.str)] hc = .ok (.str ("(" ++ Str.join ", " (ws.map quo) ++ ")")) hc := by
  have jl := joinq_len hw
  have ql := quos_len hw
  have mp := quo_map (hc := hc) (fe := fsE [cE (.str "'"), unE fmtD (vE 2), cE (.str "'")]) (i := 2) (sl := [some (.tup (ws.map D.str)), none, none]) (by show 2 < 3; omega) (fun w s2 hw' e => quoted (i := 2) e (by have : w.length ≤ 40 := (hw').1; omega)) hw
  have j : joinE (cE (.str ", ")) (lcE [2] (nmG 2) (itE itA (vE 0)) (yT) (fsE [cE (.str "'"), unE fmtD (vE 2), cE (.str "'")])) [some (.tup (ws.map D.str)), none, none] hc = .ok (.str (Str.join ", " (ws.map quo))) hc :=
    jO (hc1 := hc) rfl (lcO (ds := ws.map D.str) (hc1 := hc) (itO (d := .tup (ws.map D.str)) rfl rfl) mp (by rw [List.length_map, List.length_map]; omega)) (join_lst (by rw [List.length_map, cm_len]; omega))
  have js := jsC (hc := hc) (sl := [some (.tup (ws.map D.str)), some (.str (Str.join ", " (ws.map quo))), none]) (f := cE (.str "(")) (fs := [unE fmtD (vE 1), cE (.str ")")]) (acc := Str.empty) (y := "(") rfl (by show 0 + 1 ≤ _; omega)
    (jsC (y := Str.join ", " (ws.map quo)) (unO (a := .str (Str.join ", " (ws.map quo))) rfl (fmt_str (by omega))) (by rw [app_len]; show 0 + 1 + _ ≤ _; omega) (jsC (y := ")") rfl (by rw [app_len, app_len]; show 0 + 1 + _ + 1 ≤ _; omega) jsN))
  rw [empty_app] at js
  exact fnO rfl ((seqN (asgO j)).trans (retO js))
theorem in_split : Str.ofString " in (" = Str.ofString " in " ++ Str.ofString "(" := by decide +kernel
theorem as_wr {d : D} {t : Str} (h : AsR d t) : c_write_condition [d] hc = .ok (.str t) hc := by
  cases h with
  | @equal l m x y h1 h2 h3 h4 =>
    have a1 := colT_len h1 h2
    have a2 := colT_len h3 h4
    have js := jsC (hc := hc) (sl := [some (.tup [.str "equal", colD l x, colD m y])]) (f := unE fmtD (callE c_write_column (kA (opE ixD (vE 0) (cE (.int 1))) (nA)))) (fs := [cE (.str " = "), unE fmtD (callE c_write_column (kA (opE ixD (vE 0) (cE (.int 2))) (nA)))]) (acc := Str.empty)
      (unO (callO (k1 (a := colD l x) rfl) (col_w h1 h2)) (fmt_str (by omega))) (by show 0 + _ ≤ _; omega) (jsC (y := " = ") rfl (by rw [app_len, eq_len]; show 0 + _ + _ ≤ _; omega) (jsC (unO (callO (k1 (a := colD m y) rfl) (col_w h3 h4)) (fmt_str (by omega))) (by rw [app_len, app_len, eq_len]; show 0 + _ + _ + _ ≤ _; omega) jsN))
    rw [empty_app] at js
    exact fnO rfl (seqR (ifY (bO (opO (a := .str "equal") (b := .str "equal") rfl rfl (eq_same _))) (retO js)))
  | @among l x ws h1 h2 h3 h4 =>
    have a1 := colT_len h1 h2
    have jl := joinq_len h3
    have vl : (Str.ofString "(" ++ Str.join ", " (ws.map quo) ++ ")").length ≤ 5000 := by
      rw [app_len, app_len]
      show 1 + _ + 1 ≤ _
      omega
    have js := jsC (hc := hc) (sl := [some (.tup [.str "in", colD l x, .tup (ws.map D.str)])]) (f := unE fmtD (callE c_write_column (kA (opE ixD (vE 0) (cE (.int 1))) (nA)))) (fs := [cE (.str " in "), unE fmtD (callE c_write_values (kA (opE ixD (vE 0) (cE (.int 2))) (nA)))]) (acc := Str.empty)
      (unO (callO (k1 (a := colD l x) rfl) (col_w h1 h2)) (fmt_str (by omega))) (by show 0 + _ ≤ _; omega) (jsC (y := " in ") rfl (by rw [app_len, in4_len]; show 0 + _ + _ ≤ _; omega) (jsC (unO (callO (k1 (a := .tup (ws.map D.str)) rfl) (values_w h3 h4)) (fmt_str (by omega))) (by rw [app_len, app_len, in4_len]; show 0 + _ + _ + _ ≤ _; omega) jsN))
    rw [empty_app] at js
    have et : colT l x ++ " in " ++ ("(" ++ Str.join ", " (ws.map quo) ++ ")") = colT l x ++ " in (" ++ Str.join ", " (ws.map quo) ++ ")" := by
      rw [in_split]
      simp only [app_assoc]
    rw [et] at js
    exact fnO rfl ((seqN (ifN (bO (opO (a := .str "in") (b := .str "equal") rfl rfl (eq_not ne_ie))) rfl)).trans (retO js))
end
/-! ### statements -/
structure StP where
  b : Bool
  ts : List (D × Str)
  ss : List (D × Str)
  cs : List (D × Str)
def StP.d (s : StP) : D := .tup [.bl s.b, .tup (s.ts.map fun p => p.1), .tup (s.ss.map fun p => p.1), .tup (s.cs.map fun p => p.1)]
def StP.t (s : StP) : Str := (if s.b then Str.ofString "select distinct " else Str.ofString "select ") ++ Str.join ", " (s.ts.map fun p => p.2) ++ " from " ++ Str.join ", " (s.ss.map fun p => p.2) ++ (if s.cs.isEmpty then Str.ofString "" else Str.ofString " where ") ++ Str.join " and " (s.cs.map fun p => p.2)
structure StP.Ok (s : StP) : Prop where
  h1 : ∀ p ∈ s.ts, ToR p.1 p.2
  h2 : ∀ p ∈ s.ss, SrR p.1 p.2
  h3 : ∀ p ∈ s.cs, AsR p.1 p.2
  l1 : s.ts.length ≤ 8
  l2 : s.ss.length ≤ 8
  l3 : s.cs.length ≤ 8
  f3 : ∀ d ∈ s.cs.map (fun p => p.1), Fit 10 5000 d
theorem each_ok {fe : Sl → Hc → Res D} {i : Nat} {sl : Sl} {hc : Hc} {ps : List (D × Str)} (h : ∀ p ∈ ps, fe (sl.set i (some p.1)) hc = .ok (.str p.2) hc) : mapC (nmG i) yT fe sl (ps.map fun p => p.1) hc = .ok ((ps.map fun p => p.2).map D.str) hc := by
  induction ps with
  | nil => rfl
  | cons p ps ih =>
    have h2 := ih fun q hq => h q (List.mem_cons_of_mem _ hq)
    have e := h p List.mem_cons_self
    have f : nmG i p.1 sl = some (sl.set i (some p.1)) := rfl
    simp only [List.map_cons, mapC, f, yT, Res.bind, if_true, e, h2]
/-- sep.join([f(one) for one in parts]) -/
theorem join_each {cl : List D → Hc → Res D} {sep : Str} {i : Nat} {fi : Sl → Hc → Res D} {sl : Sl} {hc : Hc} {ps : List (D × Str)} {m : Nat} (e : fi sl hc = .ok (.tup (ps.map fun p => p.1)) hc) (hi : i < sl.length) (hw : wipeS sl [i] = sl) (h : ∀ p ∈ ps, cl [p.1] hc = .ok (.str p.2) hc) (hm : ∀ p ∈ ps, p.2.length ≤ m) (hl : ps.length ≤ 8) (hm2 : m ≤ 110000) (hs : sep.length ≤ 10) :
    joinE (cE (.str sep)) (lcE [i] (nmG i) (itE itA fi) (yT) (callE cl (kA (vE i) (nA)))) sl hc = .ok (.str (Str.join sep (ps.map fun p => p.2))) hc ∧ (Str.join sep (ps.map fun p => p.2)).length ≤ 8 * m + 80 := by
  have sm : ((ps.map fun p => p.2).map (·.length)).sum ≤ m * (ps.map fun p => p.2).length := sum_le fun y hy => by
    obtain ⟨p, hp, rfl⟩ := List.mem_map.mp hy
    exact hm p hp
  rw [List.length_map] at sm
  have h4 : m * ps.length ≤ m * 8 := Nat.mul_le_mul_left _ hl
  have jl := joinLen sep (ps.map fun p => p.2)
  rw [List.length_map] at jl
  have h5 : ps.length * sep.length ≤ 8 * 10 := Nat.mul_le_mul hl hs
  refine ⟨?_, by omega⟩
  have mp := each_ok (fe := callE cl (kA (vE i) (nA))) (i := i) (sl := sl) (hc := hc) (ps := ps) fun p hp => callO (k1 (vO (by rw [List.getElem?_set_self hi]))) (h p hp)
  exact jO (hc1 := hc) rfl (lcO (ds := ps.map fun p => p.1) (hc1 := hc) (itO (d := .tup (ps.map fun p => p.1)) e rfl) (by rw [hw]; exact mp) (by rw [List.length_map, List.length_map]; omega)) (join_lst (by rw [List.length_map]; omega))
theorem stm {hc : Hc} {s : StP} (h : s.Ok) : c_write [s.d] hc = .ok (.str s.t) hc := by
  obtain ⟨b, ts, ss, cs⟩ := s
  obtain ⟨h1, h2, h3, l1, l2, l3, f3⟩ := h
  simp only at h1 h2 h3 l1 l2 l3 f3
  have ne := ne_unit (hc := hc) f3 (by omega)
  have em : (cs.map fun p => p.1).isEmpty = cs.isEmpty := by cases cs <;> rfl
  rw [em] at ne
  obtain ⟨d, hd⟩ : ∃ d, d = StP.d ⟨b, ts, ss, cs⟩ := ⟨_, rfl⟩
  have A : ∀ (cl : List D → Hc → Res D) (x5 : Option D), (∀ p ∈ ts, cl [p.1] hc = .ok (.str p.2) hc) → joinE (cE (.str ", ")) (lcE [6] (nmG 6) (itE itA (vE 2)) (yT) (callE cl (kA (vE 6) (nA)))) [some d, some (.bl b), some (.tup (ts.map fun p => p.1)), some (.tup (ss.map fun p => p.1)), some (.tup (cs.map fun p => p.1)), x5, none] hc = .ok (.str (Str.join ", " (ts.map fun p => p.2))) hc ∧ (Str.join ", " (ts.map fun p => p.2)).length ≤ 8 * 110000 + 80 := fun cl x5 hcl =>
    join_each rfl (by show 6 < 7; omega) rfl hcl (fun p hp => to_len (h1 p hp)) l1 (by omega) (by rw [cm_len]; omega)
  have B : ∀ (cl : List D → Hc → Res D) (x5 : Option D), (∀ p ∈ ss, cl [p.1] hc = .ok (.str p.2) hc) → joinE (cE (.str ", ")) (lcE [6] (nmG 6) (itE itA (vE 3)) (yT) (callE cl (kA (vE 6) (nA)))) [some d, some (.bl b), some (.tup (ts.map fun p => p.1)), some (.tup (ss.map fun p => p.1)), some (.tup (cs.map fun p => p.1)), x5, none] hc = .ok (.str (Str.join ", " (ss.map fun p => p.2))) hc ∧ (Str.join ", " (ss.map fun p => p.2)).length ≤ 8 * 200 + 80 := fun cl x5 hcl =>
    join_each rfl (by show 6 < 7; omega) rfl hcl (fun p hp => sr_len (h2 p hp)) l2 (by omega) (by rw [cm_len]; omega)
  have C : ∀ (cl : List D → Hc → Res D) (x5 : Option D), (∀ p ∈ cs, cl [p.1] hc = .ok (.str p.2) hc) → joinE (cE (.str " and ")) (lcE [6] (nmG 6) (itE itA (vE 4)) (yT) (callE cl (kA (vE 6) (nA)))) [some d, some (.bl b), some (.tup (ts.map fun p => p.1)), some (.tup (ss.map fun p => p.1)), some (.tup (cs.map fun p => p.1)), x5, none] hc = .ok (.str (Str.join " and " (cs.map fun p => p.2))) hc ∧ (Str.join " and " (cs.map fun p => p.2)).length ≤ 8 * 10000 + 80 := fun cl x5 hcl =>
    join_each rfl (by show 6 < 7; omega) rfl hcl (fun p hp => as_len' (h3 p hp)) l3 (by omega) (by show 5 ≤ 10; omega)
  obtain ⟨a1, a2⟩ := A c_write_told (some (.str (if b then Str.ofString "select distinct " else Str.ofString "select "))) fun p hp => to_w (h1 p hp)
  have sl1 : (if b then Str.ofString "select distinct " else Str.ofString "select ").length ≤ 16 := by cases b <;> decide
  have t0 : asG (tupH 4 (consG (nmG 1) (consG (nmG 2) (consG (nmG 3) (consG (nmG 4) (nilG)))))) (vE 0) [some d, none, none, none, none, none, none] hc = .nx [some d, some (.bl b), some (.tup (ts.map fun p => p.1)), some (.tup (ss.map fun p => p.1)), some (.tup (cs.map fun p => p.1)), none, none] hc := asgG (d := d) rfl (by rw [hd]; rfl)
  obtain ⟨T1, eT1⟩ : ∃ T1, T1 = (if b then Str.ofString "select distinct " else Str.ofString "select ") ++ Str.join ", " (ts.map fun p => p.2) := ⟨_, rfl⟩
  have lT1 : T1.length ≤ 880100 := by rw [eT1, app_len]; omega
  obtain ⟨b1, b2⟩ := B c_write_source (some (.str T1)) fun p hp => sr_w (h2 p hp)
  obtain ⟨T2, eT2⟩ : ∃ T2, T2 = T1 ++ " from " ++ Str.join ", " (ss.map fun p => p.2) := ⟨_, rfl⟩
  have lT2 : T2.length ≤ 882000 := by rw [eT2, app_len, app_len]; show _ + 6 + _ ≤ _; omega
  obtain ⟨c1, c2⟩ := C c_write_condition (some (.str T2)) fun p hp => as_wr (h3 p hp)
  have wl : (if cs.isEmpty then Str.ofString "" else Str.ofString " where ").length ≤ 7 := by cases cs.isEmpty <;> decide
  have fin : StP.t ⟨b, ts, ss, cs⟩ = T2 ++ (if cs.isEmpty then Str.ofString "" else Str.ofString " where ") ++ Str.join " and " (cs.map fun p => p.2) := by
    rw [eT2, eT1]
    rfl
  rw [fin, ← hd]
  have add3 : addD hc (.str T2) (.str (if cs.isEmpty then Str.ofString "" else Str.ofString " where ")) = some (.str (T2 ++ (if cs.isEmpty then Str.ofString "" else Str.ofString " where "))) := add_str (by omega)
  have add4 : addD hc (.str (T2 ++ (if cs.isEmpty then Str.ofString "" else Str.ofString " where "))) (.str (Str.join " and " (cs.map fun p => p.2))) = some (.str (T2 ++ (if cs.isEmpty then Str.ofString "" else Str.ofString " where ") ++ Str.join " and " (cs.map fun p => p.2))) := add_str (by rw [app_len]; omega)
  have add1 : addD hc (.str (if b then Str.ofString "select distinct " else Str.ofString "select ")) (.str (Str.join ", " (ts.map fun p => p.2))) = some (.str T1) := by rw [eT1]; exact add_str (by omega)
  have add2a : addD hc (.str T1) (.str " from ") = some (.str (T1 ++ " from ")) := add_str (by show _ + 6 ≤ _; omega)
  have add2 : addD hc (.str (T1 ++ " from ")) (.str (Str.join ", " (ss.map fun p => p.2))) = some (.str T2) := by rw [eT2]; exact add_str (by rw [app_len]; show _ + 6 + _ ≤ _; omega)
  have w1 : ifE (bT (vE 1)) (cE (.str "select distinct ")) (cE (.str "select ")) [some d, some (.bl b), some (.tup (ts.map fun p => p.1)), some (.tup (ss.map fun p => p.1)), some (.tup (cs.map fun p => p.1)), none, none] hc = .ok (.str (if b then Str.ofString "select distinct " else Str.ofString "select ")) hc := by cases b <;> rfl
  have w4 : ifE (bT (opE neO (vE 4) (tupE (nA)))) (cE (.str " where ")) (cE (.str "")) [some d, some (.bl b), some (.tup (ts.map fun p => p.1)), some (.tup (ss.map fun p => p.1)), some (.tup (cs.map fun p => p.1)), some (.str T2), none] hc = .ok (.str (if cs.isEmpty then Str.ofString "" else Str.ofString " where ")) hc := by
    have e := bO (opO (op := neO) (f := vE 4) (k := tupE nA) (sl := [some d, some (.bl b), some (.tup (ts.map fun p => p.1)), some (.tup (ss.map fun p => p.1)), some (.tup (cs.map fun p => p.1)), some (.str T2), none]) (hc := hc) (hc1 := hc) (a := .tup (cs.map fun p => p.1)) (b := .tup []) rfl (tupO (as := []) rfl (by simp)) ne)
    cases q : cs.isEmpty with
    | true => rw [q] at e; exact ifeN e rfl
    | false => rw [q] at e; exact ifeY e rfl
  exact fnO rfl ((seqN t0).trans ((seqN (asgO w1)).trans ((seqN (asgO (opO (a := .str (if b then Str.ofString "select distinct " else Str.ofString "select ")) rfl a1 add1))).trans ((seqN (asgO (opO (opO (a := .str T1) (b := .str " from ") rfl rfl add2a) b1 add2))).trans (retO (opO (opO (a := .str T2) rfl w4 add3) c1 add4))))))
end Wr

set_option Elab.async false
set_option linter.all false
set_option maxRecDepth 100000
set_option maxHeartbeats 4000000
set_option autoImplicit false
/-! The words of a statement's text; what is written. -/
namespace Rdr
open PySem PySem.Spec PyProof.Rows L2 Bo
/-- the text of words -/
def flat (ks : List Str) : List Nat := ks.flatMap fun w => w.cps.toList
def cat (ks : List Str) : Str := mkS (flat ks)
theorem cat_list (ks : List Str) : (cat ks).cps.toList = flat ks := by
  show (flat ks).toArray.toList = _
  simp
theorem flat_app (a b : List Str) : flat (a ++ b) = flat a ++ flat b := by unfold flat; rw [List.flatMap_append]
theorem cat_app (a b : List Str) : cat (a ++ b) = cat a ++ cat b := str_eq (by rw [app_list, cat_list, cat_list, cat_list, flat_app])
theorem cat_cons (x : Str) (b : List Str) : cat (x :: b) = x ++ cat b := str_eq (by rw [app_list, cat_list, cat_list]; rfl)
theorem cat_nil : cat [] = Str.empty := rfl
theorem cat_one (x : Str) : cat [x] = x := by rw [cat_cons, cat_nil, app_empty]
def sepT (sep : List Str) : List (List Str) → List Str
  | [] => []
  | [k] => k
  | k :: k2 :: r => k ++ sep ++ sepT sep (k2 :: r)
theorem join_cat {s : Str} {sep : List Str} (h : cat sep = s) : ∀ ks : List (List Str), Str.join s (ks.map cat) = cat (sepT sep ks)
  | [] => rfl
  | [k] => rfl
  | k :: k2 :: r => by
    have ih := join_cat h (k2 :: r)
    show cat k ++ s ++ Str.join s ((k2 :: r).map cat) = cat (k ++ sep ++ sepT sep (k2 :: r))
    rw [ih, cat_app, cat_app, h]
/-! ### forms with their words -/
def colK : Option Str → Str → List Str
  | none, x => [x]
  | some l, x => [l, ".", x]
def nmO (l : Option Str) : Prop := ∀ y, l = some y → nameB y = true
theorem col_cat (l : Option Str) (x : Str) : cat (colK l x) = Wr.colT l x := by
  cases l with
  | none => exact cat_one x
  | some l =>
    show cat [l, ".", x] = l ++ "." ++ x
    rw [cat_cons, cat_cons, cat_one, app_assoc]
theorem sh_name {x : Str} (h : nameB x = true) : Sh x := by
  unfold nameB valB at h
  rw [Bool.and_eq_true, Bool.and_eq_true, Bool.and_eq_true, decide_eq_true_eq, decide_eq_true_eq] at h
  refine ⟨by omega, fun c hc => ?_⟩
  have := List.all_eq_true.mp h.1.2.2 c hc
  unfold low at this
  rw [Bool.and_eq_true, decide_eq_true_eq, decide_eq_true_eq] at this
  omega
theorem sh_val {x : Str} (h : valB x = true) : Sh x := by
  unfold valB at h
  rw [Bool.and_eq_true, Bool.and_eq_true, decide_eq_true_eq, decide_eq_true_eq] at h
  refine ⟨by omega, fun c hc => ?_⟩
  have := List.all_eq_true.mp h.2.2 c hc
  unfold low at this
  rw [Bool.and_eq_true, decide_eq_true_eq, decide_eq_true_eq] at this
  omega
theorem sh_nmO {l : Option Str} (h : nmO l) : ShO l := fun x e => sh_name (h x e)
inductive TwK : Nat → D → List Str → Prop
  | lit {n : Nat} {x : Str} : valB x = true → TwK n (.str x) [quo x]
  | col {n : Nat} {l : Option Str} {x : Str} : nmO l → nameB x = true → TwK n (Wr.colD l x) (colK l x)
  | call {n : Nat} {s : Option Str} {x : Str} {ps : List (D × List Str)} : nmO s → nameB x = true → 1 ≤ ps.length → ps.length ≤ 2 → (∀ p ∈ ps, TwK n p.1 p.2) → TwK (n + 1) (.tup [.str "call", lD s, .str x, .tup (ps.map (·.1))]) (colK s x ++ opL ++ sepT cmL (ps.map (·.2)) ++ clL)
inductive ToK : D → List Str → Prop
  | star {l : Str} : nameB l = true → ToK (.tup [.str "star", .str l]) [l, ".", "*"]
  | same {l : Option Str} {x : Str} : nmO l → nameB x = true → ToK (.tup [.str "column", Wr.colD l x, .str x]) (colK l x)
  | other {l : Option Str} {x y : Str} : nmO l → nameB x = true → nameB y = true → x ≠ y → ToK (.tup [.str "column", Wr.colD l x, .str y]) (colK l x ++ asL ++ [y])
  | term {d : D} {ks : List Str} {y : Str} : TwK 3 d ks → plainN d = none → nameB y = true → ToK (.tup [.str "term", d, .str y]) (ks ++ asL ++ [y])
inductive SrK : D → List Str → Prop
  | same {l : Option Str} {x : Str} : nmO l → nameB x = true → SrK (.tup [lD l, .str x, .str x]) (colK l x)
  | other {l : Option Str} {x y : Str} : nmO l → nameB x = true → nameB y = true → x ≠ y → SrK (.tup [lD l, .str x, .str y]) (colK l x ++ spL ++ [y])
inductive AsK : D → List Str → Prop
  | equal {l m : Option Str} {x y : Str} : nmO l → nameB x = true → nmO m → nameB y = true → AsK (.tup [.str "equal", Wr.colD l x, Wr.colD m y]) (colK l x ++ spL ++ eqL ++ colK m y)
  | among {l : Option Str} {x : Str} {ws : List Str} : nmO l → nameB x = true → (∀ w ∈ ws, valB w = true) → 1 ≤ ws.length → ws.length ≤ 8 → AsK (.tup [.str "in", Wr.colD l x, .tup (ws.map D.str)]) (colK l x ++ spL ++ inL ++ opL ++ sepT cmL (ws.map fun w => [quo w]) ++ clL)
structure StK where
  b : Bool
  ts : List (D × List Str)
  ss : List (D × List Str)
  cs : List (D × List Str)
def StK.d (s : StK) : D := .tup [.bl s.b, .tup (s.ts.map fun p => p.1), .tup (s.ss.map fun p => p.1), .tup (s.cs.map fun p => p.1)]
def StK.k (s : StK) : List Str := selL ++ (if s.b then disL else []) ++ sepT cmL (s.ts.map fun p => p.2) ++ froL ++ sepT cmL (s.ss.map fun p => p.2) ++ (if s.cs.isEmpty then [] else whL ++ sepT anL (s.cs.map fun p => p.2))
structure StK.Ok (s : StK) : Prop where
  h1 : ∀ p ∈ s.ts, ToK p.1 p.2
  h2 : ∀ p ∈ s.ss, SrK p.1 p.2
  h3 : ∀ p ∈ s.cs, AsK p.1 p.2
  l1 : s.ts.length ≤ 8
  l2 : s.ss.length ≤ 4
  l3 : s.cs.length ≤ 8
  m1 : 1 ≤ s.ts.length
  m2 : 1 ≤ s.ss.length
/-! ### the text -/
theorem cm_cat : cat cmL = Str.ofString ", " := by decide +kernel
theorem as_cat : cat asL = Str.ofString " as " := by decide +kernel
theorem sp_cat : cat spL = Str.ofString " " := by decide +kernel
theorem spe_cat : cat (spL ++ eqL) = Str.ofString " = " := by decide +kernel
theorem spi_cat : cat (spL ++ inL ++ opL) = Str.ofString " in (" := by decide +kernel
theorem op_cat : cat opL = Str.ofString "(" := by decide +kernel
theorem cl_cat : cat clL = Str.ofString ")" := by decide +kernel
theorem st_cat : cat [".", "*"] = Str.ofString ".*" := by decide +kernel
theorem fro_cat : cat froL = Str.ofString " from " := by decide +kernel
theorem wh_cat : cat whL = Str.ofString " where " := by decide +kernel
theorem an_cat : cat anL = Str.ofString " and " := by decide +kernel
theorem sel_cat : cat selL = Str.ofString "select " := by decide +kernel
theorem seld_cat : cat (selL ++ disL) = Str.ofString "select distinct " := by decide +kernel
theorem tm_text {n : Nat} {d : D} {ks : List Str} (h : TwK n d ks) : Wr.TmR n d (cat ks) := by
  induction h with
  | @lit n x hx => rw [cat_one]; exact .lit (sh_val hx)
  | @col n l x hl hx => rw [col_cat]; exact .col (sh_nmO hl) (sh_name hx)
  | @call n s x ps hs hx h1 h2 hp ih =>
    have e : cat (colK s x ++ opL ++ sepT cmL (ps.map (·.2)) ++ clL) = Wr.colT s x ++ "(" ++ Str.join ", " ((ps.map fun p => (p.1, cat p.2)).map (·.2)) ++ ")" := by
      rw [cat_app, cat_app, cat_app, col_cat, op_cat, cl_cat, ← join_cat cm_cat, List.map_map, List.map_map]
      rfl
    have e2 : ps.map (·.1) = (ps.map fun p => (p.1, cat p.2)).map (·.1) := by rw [List.map_map]; rfl
    rw [e, e2]
    refine .call (sh_nmO hs) (sh_name hx) (by rw [List.length_map]; exact h2) fun q hq => ?_
    obtain ⟨p, hp', rfl⟩ := List.mem_map.mp hq
    exact ih p hp'
theorem to_text {d : D} {ks : List Str} (h : ToK d ks) : Wr.ToR d (cat ks) := by
  cases h with
  | @star l hl =>
    have e : cat [l, ".", "*"] = l ++ ".*" := by rw [cat_cons]; exact congrArg _ st_cat
    rw [e]
    exact .star (sh_name hl)
  | same hl hx => rw [col_cat]; exact .same (sh_nmO hl) (sh_name hx)
  | other hl hx hy hn => rw [cat_app, cat_app, col_cat, as_cat, cat_one]; exact .other (sh_nmO hl) (sh_name hx) (sh_name hy) hn
  | term ht _ hy => rw [cat_app, cat_app, as_cat, cat_one]; exact .term (tm_text ht) (by omega) (sh_name hy)
theorem sr_text {d : D} {ks : List Str} (h : SrK d ks) : Wr.SrR d (cat ks) := by
  cases h with
  | same hl hx => rw [col_cat]; exact .same (sh_nmO hl) (sh_name hx)
  | other hl hx hy hn => rw [cat_app, cat_app, col_cat, sp_cat, cat_one]; exact .other (sh_nmO hl) (sh_name hx) (sh_name hy) hn
theorem ask_text {d : D} {ks : List Str} (h : AsK d ks) : Wr.AsR d (cat ks) := by
  cases h with
  | @equal l m x y hl hx hm hy =>
    have e : cat (colK l x ++ spL ++ eqL ++ colK m y) = Wr.colT l x ++ " = " ++ Wr.colT m y := by
      rw [List.append_assoc (colK l x), cat_app, cat_app, spe_cat, col_cat, col_cat]
    rw [e]
    exact .equal (sh_nmO hl) (sh_name hx) (sh_nmO hm) (sh_name hy)
  | @among l x ws hl hx hw h1 h2 =>
    have e : cat (colK l x ++ spL ++ inL ++ opL ++ sepT cmL (ws.map fun w => [quo w]) ++ clL) = Wr.colT l x ++ " in (" ++ Str.join ", " (ws.map quo) ++ ")" := by
      have e1 : colK l x ++ spL ++ inL ++ opL = colK l x ++ (spL ++ inL ++ opL) := by simp only [List.append_assoc]
      have e2 : ws.map quo = (ws.map fun w => [quo w]).map cat := by
        rw [List.map_map]
        refine List.map_congr_left fun w _ => ?_
        exact (cat_one _).symm
      rw [e1, cat_app, cat_app, cat_app, spi_cat, col_cat, cl_cat, e2, join_cat cm_cat]
    rw [e]
    exact .among (sh_nmO hl) (sh_name hx) (fun w hw' => sh_val (hw w hw')) (by omega)
theorem fit_val {ws : List Str} (hw : ∀ w ∈ ws, valB w = true) (h2 : ws.length ≤ 8) : Fit 1 328 (.tup (ws.map D.str)) := by
  have := fit_tup (k := 0) (w := 40) (ds := ws.map D.str) fun d hd => by
    obtain ⟨w, hw', rfl⟩ := List.mem_map.mp hd
    exact fit_sh (sh_val (hw w hw'))
  exact this.mono (by omega) (by rw [List.length_map]; omega)
theorem fit_col {l : Option Str} {x : Str} (hl : nmO l) (hx : nameB x = true) : Fit 1 82 (Wr.colD l x) := fitL_tup (fitL_cons (fit_lD (sh_nmO hl)) (fitL_cons (fit_sh (sh_name hx)) fitL_nil))
theorem fit_ask {d : D} {ks : List Str} (h : AsK d ks) : Fit 10 5000 d := by
  have kw : ∀ {k : Nat} {x : Str}, shB x = true → Fit k 40 (.str x) := fun h => fit_sh (sh_of h)
  cases h with
  | @equal l m x y hl hx hm hy => exact (fitL_tup (k := 1) (fitL_cons (kw (by decide +kernel)) (fitL_cons (fit_col hl hx) (fitL_cons (fit_col hm hy) fitL_nil)))).mono (by omega) (by omega)
  | @among l x ws hl hx hw h1 h2 => exact (fitL_tup (k := 1) (fitL_cons (kw (by decide +kernel)) (fitL_cons (fit_col hl hx) (fitL_cons (fit_val hw h2) fitL_nil)))).mono (by omega) (by omega)
theorem stm_text {hc : Hc} {s : StK} (h : s.Ok) : c_write [s.d] hc = .ok (.str (cat s.k)) hc := by
  obtain ⟨b, ts, ss, cs⟩ := s
  obtain ⟨h1, h2, h3, l1, l2, l3, m1, m2⟩ := h
  simp only at h1 h2 h3 l1 l2 l3 m1 m2
  have w := Wr.stm (hc := hc) (s := ⟨b, ts.map fun p => (p.1, cat p.2), ss.map fun p => (p.1, cat p.2), cs.map fun p => (p.1, cat p.2)⟩) {
    h1 := fun q hq => by obtain ⟨p, hp, rfl⟩ := List.mem_map.mp hq; exact to_text (h1 p hp)
    h2 := fun q hq => by obtain ⟨p, hp, rfl⟩ := List.mem_map.mp hq; exact sr_text (h2 p hp)
    h3 := fun q hq => by obtain ⟨p, hp, rfl⟩ := List.mem_map.mp hq; exact ask_text (h3 p hp)
    l1 := by rw [List.length_map]; exact l1
    l2 := by rw [List.length_map]; omega
    l3 := by rw [List.length_map]; exact l3
    f3 := fun d hd => by
      obtain ⟨q, hq, rfl⟩ := List.mem_map.mp hd
      obtain ⟨p, hp, rfl⟩ := List.mem_map.mp hq
      exact fit_ask (h3 p hp) }
  have ed : Wr.StP.d ⟨b, ts.map fun p => (p.1, cat p.2), ss.map fun p => (p.1, cat p.2), cs.map fun p => (p.1, cat p.2)⟩ = StK.d ⟨b, ts, ss, cs⟩ := by
    simp only [Wr.StP.d, StK.d, List.map_map]
    rfl
  have mm : ∀ l : List (D × List Str), (l.map fun p => (p.1, cat p.2)).map (fun p => p.2) = (l.map fun p => p.2).map cat := fun l => by simp only [List.map_map]; rfl
  have et : Wr.StP.t ⟨b, ts.map fun p => (p.1, cat p.2), ss.map fun p => (p.1, cat p.2), cs.map fun p => (p.1, cat p.2)⟩ = cat (StK.k ⟨b, ts, ss, cs⟩) := by
    simp only [Wr.StP.t, StK.k, mm, join_cat cm_cat, join_cat an_cat, cat_app, fro_cat]
    have e1 : (if b then Str.ofString "select distinct " else Str.ofString "select ") = cat selL ++ cat (if b then disL else []) := by
      cases b with
      | true => exact seld_cat.symm.trans (cat_app _ _)
      | false => exact sel_cat.symm.trans (app_empty _).symm
    rw [e1]
    cases cs with
    | nil =>
      show _ ++ Str.ofString "" ++ Str.empty = _ ++ cat []
      rw [cat_nil, app_empty]
      rfl
    | cons c cs =>
      show _ ++ Str.ofString " where " ++ cat (sepT anL ((c :: cs).map fun p => p.2)) = _ ++ cat (whL ++ sepT anL ((c :: cs).map fun p => p.2))
      rw [cat_app whL, wh_cat, app_assoc]
  rw [ed, et] at w
  exact w
/-! ### forms have words -/
theorem chosenK {R : D → List Str → Prop} : ∀ {ys : List D}, (∀ y ∈ ys, ∃ t, R y t) → ∃ ps : List (D × List Str), ps.map (fun p => p.1) = ys ∧ ∀ p ∈ ps, R p.1 p.2
  | [], _ => ⟨[], rfl, fun p hp => by cases hp⟩
  | y :: ys, h => by
    obtain ⟨t, ht⟩ := h y List.mem_cons_self
    obtain ⟨ps, h1, h2⟩ := chosenK fun z hz => h z (List.mem_cons_of_mem _ hz)
    refine ⟨(y, t) :: ps, by rw [List.map_cons, h1], fun p hp => ?_⟩
    rcases List.mem_cons.mp hp with rfl | hp
    · exact ht
    · exact h2 p hp
theorem nB_str {d : D} (h : nB d = true) : ∃ x, d = .str x ∧ nameB x = true := by
  cases d with
  | str x => exact ⟨x, rfl, h⟩
  | _ => simp [nB] at h
theorem vB_str {d : D} (h : vB d = true) : ∃ x, d = .str x ∧ valB x = true := by
  cases d with
  | str x => exact ⟨x, rfl, h⟩
  | _ => simp [vB] at h
theorem isS_str {d : D} {s : Str} (h : isS s d = true) : d = .str s := by
  cases d with
  | str x => exact congrArg D.str (of_decide_eq_true h)
  | _ => simp [isS] at h
theorem opt_str {d : D} (h : (isNon d || nB d) = true) : ∃ l, d = lD l ∧ nmO l := by
  rw [Bool.or_eq_true] at h
  rcases h with h | h
  · refine ⟨none, ?_, fun y e => by cases e⟩
    cases d with
    | non => rfl
    | _ => simp [isNon] at h
  · obtain ⟨x, rfl, hx⟩ := nB_str h
    exact ⟨some x, rfl, fun y e => by cases e; exact hx⟩
theorem colB_col {d : D} (h : colB d = true) : ∃ l x, d = Wr.colD l x ∧ nmO l ∧ nameB x = true := by
  unfold colB at h
  split at h
  · rw [Bool.and_eq_true] at h
    obtain ⟨l, rfl, hl⟩ := opt_str h.1
    obtain ⟨x, rfl, hx⟩ := nB_str h.2
    exact ⟨l, x, rfl, hl, hx⟩
  · cases h
theorem callB_tm : ∀ {n : Nat} {d : D}, callB n d = true → ∃ ks, TwK n d ks ∧ plainN d = none
  | 0, d, h => by simp [callB] at h
  | n + 1, d, h => by
    unfold callB at h
    split at h
    · rename_i m w s x ts e
      cases e
      rw [Bool.and_eq_true, Bool.and_eq_true, Bool.and_eq_true] at h
      obtain ⟨⟨h1, h2, h3⟩, h4⟩ := h
      have := isS_str h1
      subst this
      obtain ⟨s, rfl, hs⟩ := opt_str h2
      obtain ⟨x, rfl, hx⟩ := nB_str h3
      split at h4
      · rename_i ts
        rw [Bool.and_eq_true, Bool.and_eq_true, decide_eq_true_eq, decide_eq_true_eq, List.all_eq_true] at h4
        obtain ⟨⟨l1, l2⟩, ha⟩ := h4
        obtain ⟨ps, e1, e2⟩ := chosenK (R := TwK n) (ys := ts) fun t ht => by
          have := ha t ht
          rw [Bool.or_eq_true, Bool.or_eq_true] at this
          rcases this with c | v | c
          · obtain ⟨l, y, rfl, hl, hy⟩ := colB_col c
            exact ⟨_, .col hl hy⟩
          · obtain ⟨y, rfl, hy⟩ := vB_str v
            exact ⟨_, .lit hy⟩
          · obtain ⟨ks, hk, _⟩ := callB_tm c
            exact ⟨ks, hk⟩
        have el : ps.length = ts.length := by rw [← e1, List.length_map]
        subst e1
        exact ⟨_, .call hs hx (by omega) (by omega) e2, by cases s <;> rfl⟩
      · cases h4
    · cases h
theorem toldB_to {d : D} (h : toldB d = true) : ∃ ks, ToK d ks := by
  unfold toldB at h
  split at h
  · rw [Bool.and_eq_true] at h
    have := isS_str h.1
    subst this
    obtain ⟨x, rfl, hx⟩ := nB_str h.2
    exact ⟨_, .star hx⟩
  · rename_i a b c
    have h0 : (if isS "column" a then colB b && nB c else isS "term" a && ((vB b || callB 3 b) && nB c)) = true := h
    by_cases hs : isS "column" a = true
    · rw [if_pos hs] at h0
      clear h
      have h := h0
      have := isS_str hs
      subst this
      rw [Bool.and_eq_true] at h
      obtain ⟨l, x, rfl, hl, hx⟩ := colB_col h.1
      obtain ⟨y, rfl, hy⟩ := nB_str h.2
      by_cases q : x = y
      · subst q; exact ⟨_, .same hl hx⟩
      · exact ⟨_, .other hl hx hy q⟩
    · clear h
      have h := h0
      rw [if_neg hs, Bool.and_eq_true, Bool.and_eq_true, Bool.or_eq_true] at h
      have := isS_str h.1
      subst this
      obtain ⟨y, rfl, hy⟩ := nB_str h.2.2
      rcases h.2.1 with v | c
      · obtain ⟨x, rfl, hx⟩ := vB_str v
        exact ⟨_, .term (.lit hx) rfl hy⟩
      · obtain ⟨ks, h1, h2⟩ := callB_tm c
        exact ⟨_, .term h1 h2 hy⟩
  · cases h
theorem srcB_sr {d : D} (h : srcB d = true) : ∃ ks, SrK d ks := by
  unfold srcB at h
  split at h
  · rw [Bool.and_eq_true, Bool.and_eq_true] at h
    obtain ⟨l, rfl, hl⟩ := opt_str h.1
    obtain ⟨x, rfl, hx⟩ := nB_str h.2.1
    obtain ⟨y, rfl, hy⟩ := nB_str h.2.2
    by_cases q : x = y
    · subst q; exact ⟨_, .same hl hx⟩
    · exact ⟨_, .other hl hx hy q⟩
  · cases h
theorem askB_as {d : D} (h : askB d = true) : ∃ ks, AsK d ks := by
  unfold askB at h
  split at h
  · rename_i a b c
    have h0 : (if isS "equal" a then colB b && colB c else isS "in" a && (colB b && valsB c)) = true := h
    by_cases hs : isS "equal" a = true
    · rw [if_pos hs] at h0
      clear h
      have h := h0
      have := isS_str hs
      subst this
      rw [Bool.and_eq_true] at h
      obtain ⟨l, x, rfl, hl, hx⟩ := colB_col h.1
      obtain ⟨m, y, rfl, hm, hy⟩ := colB_col h.2
      exact ⟨_, .equal hl hx hm hy⟩
    · clear h
      have h := h0
      rw [if_neg hs, Bool.and_eq_true, Bool.and_eq_true] at h
      have := isS_str h.1
      subst this
      obtain ⟨l, x, rfl, hl, hx⟩ := colB_col h.2.1
      have hv := h.2.2
      unfold valsB at hv
      split at hv
      · rename_i ds
        rw [Bool.and_eq_true, Bool.and_eq_true, Bool.and_eq_true, decide_eq_true_eq, decide_eq_true_eq] at hv
        obtain ⟨e1, e2⟩ := all_strs hv.2.1
        rw [e1]
        exact ⟨_, .among hl hx e2 (by rw [List.length_map]; exact hv.1.1) (by rw [List.length_map]; exact hv.1.2)⟩
      · cases hv
  · cases h
theorem rowB_all {P : D → Bool} {lo hi : Nat} {d : D} (h : rowB P lo hi d = true) : ∃ ds, d = .tup ds ∧ lo ≤ ds.length ∧ ds.length ≤ hi ∧ ∀ x ∈ ds, P x = true := by
  unfold rowB at h
  split at h
  · rw [Bool.and_eq_true, Bool.and_eq_true, decide_eq_true_eq, decide_eq_true_eq, List.all_eq_true] at h
    exact ⟨_, rfl, h.1.1, h.1.2, h.2⟩
  · cases h
/-- a statement has its words -/
theorem stmB_st {d : D} (h : stmB d = true) : ∃ s : StK, s.Ok ∧ s.d = d := by
  unfold stmB at h
  split at h
  · rename_i b ts ss cs
    rw [Bool.and_eq_true, Bool.and_eq_true, Bool.and_eq_true, Bool.and_eq_true] at h
    obtain ⟨⟨hb, ht, hs⟩, _, hc⟩ := h
    cases b with
    | bl b =>
      obtain ⟨ts, rfl, t1, t2, t3⟩ := rowB_all ht
      obtain ⟨ss, rfl, s1, s2, s3⟩ := rowB_all hs
      obtain ⟨cs, rfl, c1, c2, c3⟩ := rowB_all hc
      obtain ⟨pt, e1, e2⟩ := chosenK (R := ToK) (ys := ts) fun x hx => toldB_to (t3 x hx)
      obtain ⟨ps, e3, e4⟩ := chosenK (R := SrK) (ys := ss) fun x hx => srcB_sr (s3 x hx)
      obtain ⟨pc, e5, e6⟩ := chosenK (R := AsK) (ys := cs) fun x hx => askB_as (c3 x hx)
      have l1 : pt.length = ts.length := by rw [← e1, List.length_map]
      have l2 : ps.length = ss.length := by rw [← e3, List.length_map]
      have l3 : pc.length = cs.length := by rw [← e5, List.length_map]
      have q1 : pt.length ≤ 8 := by omega
      have q2 : ps.length ≤ 4 := by omega
      have q3 : pc.length ≤ 8 := by omega
      have q4 : 1 ≤ pt.length := by omega
      have q5 : 1 ≤ ps.length := by omega
      refine ⟨⟨b, pt, ps, pc⟩, ⟨e2, e4, e6, q1, q2, q3, q4, q5⟩, ?_⟩
      show D.tup [.bl b, .tup (pt.map fun p => p.1), .tup (ps.map fun p => p.1), .tup (pc.map fun p => p.1)] = _
      rw [e1, e3, e5]
    | _ => simp [isBl] at hb
  · cases h
theorem write_stm {hc : Hc} {d : D} (h : stmB d = true) : ∃ s : StK, s.Ok ∧ s.d = d ∧ c_write [d] hc = .ok (.str (cat s.k)) hc := by
  obtain ⟨s, h1, h2⟩ := stmB_st h
  exact ⟨s, h1, h2, h2 ▸ stm_text h1⟩
end Rdr

set_option Elab.async false
set_option linter.all false
set_option maxRecDepth 100000
set_option maxHeartbeats 4000000
set_option autoImplicit false
/-! The words of a statement as a function; what is read is plain data; read. -/
namespace Rdr
open PySem PySem.Spec PyProof.Rows L2 Bo
def colF : D → List Str
  | .tup [.str l, .str x] => [l, ".", x]
  | .tup [_, .str x] => [x]
  | _ => []
def tmF : Nat → D → List Str
  | n + 1, .tup [_, s, x, .tup ts] => colF (.tup [s, x]) ++ opL ++ sepT cmL (ts.map (tmF n)) ++ clL
  | _, .str x => [quo x]
  | _, d => colF d
def toF : D → List Str
  | .tup [_, l] => [strD l, ".", "*"]
  | .tup [_, t, y] => if plainN t = some (strD y) then colF t else tmF 3 t ++ asL ++ [strD y]
  | _ => []
def srF : D → List Str
  | .tup [a, b, y] => if strD b = strD y then colF (.tup [a, b]) else colF (.tup [a, b]) ++ spL ++ [strD y]
  | _ => []
def tupL : D → List D
  | .tup ds => ds
  | _ => []
def asF : D → List Str
  | .tup [a, b, c] => if isS "equal" a then colF b ++ spL ++ eqL ++ colF c else colF b ++ spL ++ inL ++ opL ++ sepT cmL ((tupL c).map fun w => [quo (strD w)]) ++ clL
  | _ => []
def stF : D → List Str
  | .tup [.bl b, .tup ts, .tup ss, .tup cs] => selL ++ (if b then disL else []) ++ sepT cmL (ts.map toF) ++ froL ++ sepT cmL (ss.map srF) ++ (if cs.isEmpty then [] else whL ++ sepT anL (cs.map asF))
  | _ => []
theorem colF_col (l : Option Str) (x : Str) : colF (Wr.colD l x) = colK l x := by cases l <;> rfl
theorem tmF_tm : ∀ {n : Nat} {d : D} {ks : List Str}, TwK n d ks → tmF n d = ks := fun h => by
  induction h with
  | @lit n x hx => cases n <;> rfl
  | @col n l x hl hx =>
    rw [← colF_col]
    cases n <;> rfl
  | @call n s x ps hs hx h1 h2 hp ih =>
    show colF (.tup [lD s, .str x]) ++ opL ++ sepT cmL ((ps.map (·.1)).map (tmF n)) ++ clL = _
    have e : (ps.map (·.1)).map (tmF n) = ps.map (·.2) := by
      rw [List.map_map]
      exact List.map_congr_left fun p hp' => ih p hp'
    rw [e, show colF (.tup [lD s, .str x]) = colK s x from colF_col s x]
theorem toF_to {d : D} {ks : List Str} (h : ToK d ks) : toF d = ks := by
  cases h with
  | @star l hl => rfl
  | @same l x hl hx =>
    show (if plainN (Wr.colD l x) = some x then colF (Wr.colD l x) else tmF 3 (Wr.colD l x) ++ asL ++ [x]) = _
    rw [if_pos (show plainN (Wr.colD l x) = some x from rfl), colF_col]
  | @other l x y hl hx hy hn =>
    show (if plainN (Wr.colD l x) = some y then colF (Wr.colD l x) else tmF 3 (Wr.colD l x) ++ asL ++ [y]) = _
    rw [if_neg (by show ¬ some x = some y; exact fun e => hn (Option.some.inj e)), tmF_tm (.col hl hx)]
  | @term d ks y ht hp hy =>
    show (if plainN d = some y then colF d else tmF 3 d ++ asL ++ [y]) = _
    rw [if_neg (by rw [hp]; simp), tmF_tm ht]
theorem srF_sr {d : D} {ks : List Str} (h : SrK d ks) : srF d = ks := by
  cases h with
  | @same l x hl hx =>
    show (if x = x then colF (Wr.colD l x) else colF (Wr.colD l x) ++ spL ++ [x]) = _
    rw [if_pos rfl, colF_col]
  | @other l x y hl hx hy hn =>
    show (if x = y then colF (Wr.colD l x) else colF (Wr.colD l x) ++ spL ++ [y]) = _
    rw [if_neg hn, colF_col]
theorem asF_as {d : D} {ks : List Str} (h : AsK d ks) : asF d = ks := by
  cases h with
  | @equal l m x y hl hx hm hy =>
    show (if isS "equal" (.str "equal") = true then colF (Wr.colD l x) ++ spL ++ eqL ++ colF (Wr.colD m y) else colF (Wr.colD l x) ++ spL ++ inL ++ opL ++ sepT cmL ((tupL (Wr.colD m y)).map fun w => [quo (strD w)]) ++ clL) = _
    rw [if_pos (show isS (Str.ofString "equal") (.str (Str.ofString "equal")) = true from decide_eq_true (p := Str.ofString "equal" = Str.ofString "equal") rfl), colF_col, colF_col]
  | @among l x ws hl hx hw h1 h2 =>
    show (if isS "equal" (.str "in") = true then colF (Wr.colD l x) ++ spL ++ eqL ++ colF (.tup (ws.map D.str)) else colF (Wr.colD l x) ++ spL ++ inL ++ opL ++ sepT cmL ((ws.map D.str).map fun w => [quo (strD w)]) ++ clL) = _
    rw [if_neg (show ¬ isS (Str.ofString "equal") (.str (Str.ofString "in")) = true by decide +kernel), colF_col]
    show _ ++ sepT cmL ((ws.map D.str).map fun w => [quo (strD w)]) ++ clL = _
    rw [List.map_map]
    rfl
theorem stF_st {s : StK} (h : s.Ok) : stF s.d = s.k := by
  obtain ⟨b, ts, ss, cs⟩ := s
  have e1 : (ts.map fun p => p.1).map toF = ts.map fun p => p.2 := by
    rw [List.map_map]; exact List.map_congr_left fun p hp => toF_to (h.h1 p hp)
  have e2 : (ss.map fun p => p.1).map srF = ss.map fun p => p.2 := by
    rw [List.map_map]; exact List.map_congr_left fun p hp => srF_sr (h.h2 p hp)
  have e3 : (cs.map fun p => p.1).map asF = cs.map fun p => p.2 := by
    rw [List.map_map]; exact List.map_congr_left fun p hp => asF_as (h.h3 p hp)
  have e4 : (cs.map fun p => p.1).isEmpty = cs.isEmpty := by cases cs <;> rfl
  show selL ++ (if b then disL else []) ++ sepT cmL ((ts.map fun p => p.1).map toF) ++ froL ++ sepT cmL ((ss.map fun p => p.1).map srF) ++ (if (cs.map fun p => p.1).isEmpty then [] else whL ++ sepT anL ((cs.map fun p => p.1).map asF)) = _
  rw [e1, e2, e3, e4]
  rfl
def txtD (d : D) : Str := cat (stF d)
theorem write_pd {hc : Hc} {d : D} (h : stmB d = true) : c_write [d] hc = .ok (.str (txtD d)) hc := by
  obtain ⟨s, h1, rfl⟩ := stmB_st h
  rw [stm_text h1]
  unfold txtD
  rw [stF_st h1]
/-! ### words are good -/
theorem words_sub : ∀ (n : Nat) (cs : List Nat), (wordsL n cs).length ≤ n ∧ ∀ w ∈ wordsL n cs, w.length ≤ cs.length ∧ ∀ c ∈ w, c ∈ cs
  | 0, cs => ⟨Nat.le_refl _, fun w hw => by cases hw⟩
  | n + 1, [] => ⟨by simp [wordsL], fun w hw => by cases hw⟩
  | n + 1, c :: cs => by
    simp only [wordsL]
    generalize (if low c = true then (cs.takeWhile low).length else if c = 39 then (cs.takeWhile low).length + 1 else 0) = m
    obtain ⟨h1, h2⟩ := words_sub n (cs.drop m)
    refine ⟨by rw [List.length_cons]; omega, fun w hw => ?_⟩
    rcases List.mem_cons.mp hw with rfl | hw
    · refine ⟨by rw [List.length_cons, List.length_cons, List.length_take]; omega, fun a ha => ?_⟩
      rcases List.mem_cons.mp ha with rfl | ha
      · exact List.mem_cons_self
      · exact List.mem_cons_of_mem _ (List.mem_of_mem_take ha)
    · obtain ⟨h3, h4⟩ := h2 w hw
      rw [List.length_drop] at h3
      exact ⟨by rw [List.length_cons]; omega, fun a ha => List.mem_cons_of_mem _ (List.mem_of_mem_drop (h4 a ha))⟩
theorem strOk_iff {x : Str} : PyData.strOk x = true ↔ ∀ c ∈ x.cps.toList, c < 0x110000 := by
  unfold PyData.strOk
  rw [← Array.all_toList, List.all_eq_true]
  constructor
  · exact fun h c hc => of_decide_eq_true (h c hc)
  · exact fun h c hc => decide_eq_true (h c hc)
theorem mkS_list (l : List Nat) : (mkS l).cps.toList = l := by show l.toArray.toList = l; simp
theorem wordsOf_ok {x : Str} (hx : x.cps.toList.length ≤ 19000) (hs : PyData.strOk x = true) : (wordsOf x).length ≤ 19000 ∧ ∀ w ∈ wordsOf x, w.length ≤ 19000 ∧ PyData.strOk w = true := by
  obtain ⟨h1, h2⟩ := words_sub x.cps.toList.length x.cps.toList
  refine ⟨by unfold wordsOf; rw [List.length_map]; omega, fun w hw => ?_⟩
  obtain ⟨l, hl, rfl⟩ := List.mem_map.mp hw
  obtain ⟨h3, h4⟩ := h2 l hl
  refine ⟨?_, ?_⟩
  · show (mkS l).cps.toList.length ≤ _
    rw [mkS_list]
    omega
  · rw [strOk_iff, mkS_list]
    exact fun c hc => strOk_iff.mp hs c (h4 c hc)
/-! ### what is read is plain data -/
section
variable {ws : List Str}
theorem nw_ok (hw : ∀ w ∈ ws, w.length ≤ 19000 ∧ PyData.strOk w = true) (p : Nat) : (nw ws p).length ≤ 19000 ∧ PyData.strOk (nw ws p) = true := by
  unfold nw
  cases q : ws[p]? with
  | none => exact ⟨by show 0 ≤ _; omega, by decide +kernel⟩
  | some w => exact hw w (List.mem_of_getElem? q)
theorem pd_mk {n : Nat} {x : Str} (h1 : PyData.strOk x = true) (h2 : x.length ≤ 100000) : pdB n (.str x) = true := by
  cases n <;> · simp only [pdB, Bool.and_eq_true, decide_eq_true_eq]; exact ⟨h1, h2⟩
theorem pd_tupI {n : Nat} {ds : List D} (h1 : ds.length ≤ 100000) (h2 : ∀ d ∈ ds, pdB n d = true) : pdB (n + 1) (.tup ds) = true := by
  simp only [pdB, Bool.and_eq_true, decide_eq_true_eq, List.all_eq_true]
  exact ⟨h1, h2⟩
theorem pd_name {n : Nat} {x : Str} (h : nameB x = true) : pdB n (.str x) = true := by
  have := sh_name h
  exact pd_mk (Wd.ok this) (by have := this.1; omega)
theorem name_nm {p q : Nat} {x : Str} (h : nameP ws p = some (x, q)) : nameB x = true := by
  unfold nameP at h
  split at h
  · cases h; assumption
  · cases h
theorem col_nm {p q : Nat} {c : Option Str × Str} (h : colP ws p = some (c, q)) : nmO c.1 ∧ nameB c.2 = true := by
  unfold colP at h
  obtain ⟨⟨x, q1⟩, h1, h2⟩ := Option.bind_eq_some_iff.mp h
  dsimp only at h2
  split at h2
  · obtain ⟨⟨y, q2⟩, h3, h4⟩ := Option.map_eq_some_iff.mp h2
    cases h4
    exact ⟨fun z e => by cases e; exact name_nm h1, name_nm h3⟩
  · cases h2
    exact ⟨fun z e => by (cases e), name_nm h1⟩
theorem pd_lD {n : Nat} {l : Option Str} (h : nmO l) : pdB n (lD l) = true := by
  cases l with
  | none => cases n <;> rfl
  | some x => exact pd_name (h x rfl)
theorem pd_col {n : Nat} {c : Option Str × Str} (h : nmO c.1 ∧ nameB c.2 = true) : pdB (n + 1) (colD c) = true :=
  pd_tupI (by simp) fun d hd => by
    simp only [List.mem_cons, List.not_mem_nil, or_false] at hd
    rcases hd with rfl | rfl
    · exact pd_lD h.1
    · exact pd_name h.2
theorem pd_value {n p q : Nat} {x : Str} (hw : ∀ w ∈ ws, w.length ≤ 19000 ∧ PyData.strOk w = true) (h : valueP ws p = some (x, q)) : pdB n (.str x) = true := by
  unfold valueP at h
  split at h
  · cases h
    have := nw_ok hw p
    refine pd_mk ?_ ?_
    · rw [strOk_iff]
      intro c hc
      refine strOk_iff.mp this.2 c ?_
      unfold cutS at hc
      rw [List.toList_toArray] at hc
      exact List.mem_of_mem_drop (List.mem_of_mem_take hc)
    · have := cutS_length (nw ws p) (some 1) (some (-1)); omega
  · cases h
theorem more_all {α : Type} {sep : List Str} {one : Nat → Option (α × Nat)} {P : α → Prop} (h1 : ∀ q x q', one q = some (x, q') → P x) : ∀ (n q : Nat) (xs : List α) (q' : Nat), moreP ws sep one n q = some (xs, q') → xs.length ≤ n ∧ ∀ x ∈ xs, P x
  | 0, q, xs, q', h => by cases h; exact ⟨Nat.le_refl _, fun x hx => by cases hx⟩
  | n + 1, q, xs, q', h => by
    rw [moreP] at h
    split at h
    · obtain ⟨⟨x, q1⟩, h2, h3⟩ := Option.bind_eq_some_iff.mp h
      obtain ⟨⟨ys, q2⟩, h4, h5⟩ := Option.map_eq_some_iff.mp h3
      cases h5
      obtain ⟨h6, h7⟩ := more_all h1 n q1 ys q' h4
      refine ⟨by rw [List.length_cons]; omega, fun y hy => ?_⟩
      rcases List.mem_cons.mp hy with rfl | hy
      · exact h1 _ _ _ h2
      · exact h7 y hy
    · cases h; exact ⟨Nat.zero_le _, fun x hx => by cases hx⟩
theorem parts_all {α : Type} {one : Nat → Option (α × Nat)} {P : α → Prop} (h1 : ∀ q x q', one q = some (x, q') → P x) {q : Nat} {xs : List α} {q' : Nat} (h : partsP ws one q = some (xs, q')) : xs.length ≤ 20001 ∧ ∀ x ∈ xs, P x := by
  unfold partsP at h
  obtain ⟨⟨x, q1⟩, h2, h3⟩ := Option.bind_eq_some_iff.mp h
  obtain ⟨⟨ys, q2⟩, h4, h5⟩ := Option.map_eq_some_iff.mp h3
  cases h5
  obtain ⟨h6, h7⟩ := more_all h1 20000 q1 ys q' h4
  refine ⟨by rw [List.length_cons]; omega, fun y hy => ?_⟩
  rcases List.mem_cons.mp hy with rfl | hy
  · exact h1 _ _ _ h2
  · exact h7 y hy
theorem pd_lit {n : Nat} {s : Str} (h : shB s = true) : pdB n (.str s) = true := by
  have := sh_of h
  exact pd_mk (Wd.ok this) (by have := this.1; omega)
theorem pd_term (hw : ∀ w ∈ ws, w.length ≤ 19000 ∧ PyData.strOk w = true) : ∀ (n q : Nat) (x : D) (q' : Nat), termP ws n q = some (x, q') → pdB (2 * n + 1) x = true
  | 0, q, x, q', h => by
    rw [termP] at h
    split at h
    · obtain ⟨⟨y, q1⟩, h1, h2⟩ := Option.map_eq_some_iff.mp h
      cases h2
      exact pd_value hw h1
    · obtain ⟨⟨y, q1⟩, h1, h2⟩ := Option.map_eq_some_iff.mp h
      cases h2
      exact pd_col (col_nm h1)
  | n + 1, q, x, q', h => by
    rw [termP] at h
    split at h
    · obtain ⟨⟨y, q1⟩, h1, h2⟩ := Option.map_eq_some_iff.mp h
      cases h2
      exact pd_value hw h1
    · obtain ⟨⟨c, q1⟩, h1, h2⟩ := Option.bind_eq_some_iff.mp h
      dsimp only at h2
      split at h2
      · obtain ⟨⟨ts, q2⟩, h3, h4⟩ := Option.bind_eq_some_iff.mp h2
        obtain ⟨q3, h5, h6⟩ := Option.map_eq_some_iff.mp h4
        cases h6
        obtain ⟨g1, g2⟩ := parts_all (P := fun d => pdB (2 * n + 1) d = true) (pd_term hw n) h3
        obtain ⟨n1, n2⟩ := col_nm h1
        refine pd_tupI (n := 2 * n + 2) (by simp) fun d hd => ?_
        simp only [List.mem_cons, List.not_mem_nil, or_false] at hd
        rcases hd with rfl | rfl | rfl | rfl
        · exact pd_lit (by decide +kernel)
        · exact pd_lD n1
        · exact pd_name n2
        · exact pd_tupI (by omega) g2
      · cases h2; exact pd_mono (pd_col (n := 0) (col_nm h1)) (by omega)
theorem pd_told (hw : ∀ w ∈ ws, w.length ≤ 19000 ∧ PyData.strOk w = true) : ∀ (q : Nat) (x : D) (q' : Nat), toldP ws q = some (x, q') → pdB 8 x = true := fun q x q' h => by
  unfold toldP at h
  split at h
  · obtain ⟨⟨l, q1⟩, h1, h2⟩ := Option.bind_eq_some_iff.mp h
    obtain ⟨q2, h3, h4⟩ := Option.map_eq_some_iff.mp h2
    cases h4
    refine pd_tupI (by simp) fun d hd => ?_
    simp only [List.mem_cons, List.not_mem_nil, or_false] at hd
    rcases hd with rfl | rfl
    · exact pd_lit (by decide +kernel)
    · exact pd_name (name_nm h1)
  · obtain ⟨⟨t, q1⟩, h1, h2⟩ := Option.bind_eq_some_iff.mp h
    have ht := pd_term hw _ _ _ _ h1
    have tri : ∀ {k y : D}, pdB 7 k = true → pdB 7 y = true → pdB 8 (.tup [k, t, y]) = true := fun hk hy => pd_tupI (by simp) fun d hd => by
      simp only [List.mem_cons, List.not_mem_nil, or_false] at hd
      rcases hd with rfl | rfl | rfl
      · exact hk
      · exact ht
      · exact hy
    dsimp only at h2
    split at h2
    · rename_i x' hx'
      split at h2
      · obtain ⟨⟨y, q2⟩, h3, h4⟩ := Option.map_eq_some_iff.mp h2
        cases h4
        exact tri (pd_lit (by decide +kernel)) (pd_name (name_nm h3))
      · cases h2
        refine tri (pd_lit (by decide +kernel)) ?_
        have hk := term_kind _ _ _ _ h1
        cases hk with
        | val z => cases hx'
        | col c =>
          cases hx'
          obtain ⟨m, e, _, hh⟩ := pd_tup ht
          cases e
          exact pd_mono (hh (.str c.2) (by simp)) (by omega)
        | call c ts => obtain ⟨l, z⟩ := c; cases l <;> cases hx'
    · obtain ⟨q2, h3, h4⟩ := Option.bind_eq_some_iff.mp h2
      obtain ⟨⟨y, q3⟩, h5, h6⟩ := Option.map_eq_some_iff.mp h4
      cases h6
      exact tri (pd_lit (by decide +kernel)) (pd_name (name_nm h5))
theorem pd_src : ∀ (q : Nat) (x : (Option Str × Str) × Str) (q' : Nat), srcP ws q = some (x, q') → pdB 8 (srcD x) = true := fun q x q' h => by
  obtain ⟨⟨c, q1⟩, h1, h2⟩ := Option.bind_eq_some_iff.mp h
  obtain ⟨⟨l, q2⟩, h3, h4⟩ := Option.map_eq_some_iff.mp h2
  cases h4
  obtain ⟨n1, n2⟩ := col_nm h1
  have hl : nameB l = true := by
    unfold lblP at h3
    split at h3
    · obtain ⟨⟨b, q3⟩, h5, h6⟩ := Option.bind_eq_some_iff.mp h3
      dsimp only at h6
      split at h6
      · exact name_nm h6
      · cases h6; exact n2
    · cases h3; exact n2
  refine pd_tupI (by simp) fun d hd => ?_
  simp only [List.mem_cons, List.not_mem_nil, or_false] at hd
  rcases hd with rfl | rfl | rfl
  · exact pd_lD n1
  · exact pd_name n2
  · exact pd_name hl
theorem pd_ask (hw : ∀ w ∈ ws, w.length ≤ 19000 ∧ PyData.strOk w = true) : ∀ (q : Nat) (x : D) (q' : Nat), askP ws q = some (x, q') → pdB 8 x = true := fun q x q' h => by
  obtain ⟨⟨c, q1⟩, h1, h2⟩ := Option.bind_eq_some_iff.mp h
  obtain ⟨q2, h3, h4⟩ := Option.bind_eq_some_iff.mp h2
  have hcn := col_nm h1
  dsimp only at h4
  split at h4
  · obtain ⟨⟨d, q3⟩, h5, h6⟩ := Option.map_eq_some_iff.mp h4
    cases h6
    refine pd_tupI (by simp) fun d hd => ?_
    simp only [List.mem_cons, List.not_mem_nil, or_false] at hd
    rcases hd with rfl | rfl | rfl
    · exact pd_lit (by decide +kernel)
    · exact pd_col hcn
    · exact pd_col (col_nm h5)
  · obtain ⟨q3, h5, h6⟩ := Option.bind_eq_some_iff.mp h4
    obtain ⟨⟨vs, q4⟩, h7, h8⟩ := Option.map_eq_some_iff.mp h6
    cases h8
    unfold valuesP at h7
    obtain ⟨q5, h9, h10⟩ := Option.bind_eq_some_iff.mp h7
    obtain ⟨⟨xs, q6⟩, h11, h12⟩ := Option.bind_eq_some_iff.mp h10
    obtain ⟨q7, h13, h14⟩ := Option.map_eq_some_iff.mp h12
    cases h14
    obtain ⟨g1, g2⟩ := parts_all (P := fun x => pdB 6 (.str x) = true) (fun q x q' hh => pd_value hw hh) h11
    refine pd_tupI (by simp) fun d hd => ?_
    simp only [List.mem_cons, List.not_mem_nil, or_false] at hd
    rcases hd with rfl | rfl | rfl
    · exact pd_lit (by decide +kernel)
    · exact pd_col hcn
    · refine pd_tupI (by rw [List.length_map]; omega) fun e he => ?_
      obtain ⟨y, hy, rfl⟩ := List.mem_map.mp he
      exact g2 y hy
theorem pd_stm (hw : ∀ w ∈ ws, w.length ≤ 19000 ∧ PyData.strOk w = true) {p q : Nat} {x : D} (h : stmP ws p = some (x, q)) : pdB 10 x = true := by
  unfold stmP at h
  obtain ⟨q1, h1, h2⟩ := Option.bind_eq_some_iff.mp h
  obtain ⟨⟨ts, q2⟩, h3, h4⟩ := Option.bind_eq_some_iff.mp h2
  obtain ⟨q3, h5, h6⟩ := Option.bind_eq_some_iff.mp h4
  obtain ⟨⟨ss, q4⟩, h7, h8⟩ := Option.bind_eq_some_iff.mp h6
  obtain ⟨⟨cs, q5⟩, h9, h10⟩ := Option.map_eq_some_iff.mp h8
  cases h10
  obtain ⟨t1, t2⟩ := parts_all (P := fun d => pdB 8 d = true) (pd_told hw) h3
  obtain ⟨s1, s2⟩ := parts_all (P := fun s => pdB 8 (srcD s) = true) pd_src h7
  have hcs : cs.length ≤ 20001 ∧ ∀ d ∈ cs, pdB 8 d = true := by
    unfold asksP at h9
    split at h9
    · obtain ⟨⟨c, q6⟩, g1, g2⟩ := Option.bind_eq_some_iff.mp h9
      obtain ⟨⟨cs', q7⟩, g3, g4⟩ := Option.map_eq_some_iff.mp g2
      cases g4
      obtain ⟨k1, k2⟩ := more_all (P := fun d => pdB 8 d = true) (pd_ask hw) _ _ _ _ g3
      refine ⟨by rw [List.length_cons]; omega, fun d hd => ?_⟩
      rcases List.mem_cons.mp hd with rfl | hd
      · exact pd_ask hw _ _ _ g1
      · exact k2 d hd
    · cases h9; exact ⟨Nat.zero_le _, fun d hd => by cases hd⟩
  refine pd_tupI (n := 9) (by simp) fun d hd => ?_
  simp only [List.mem_cons, List.not_mem_nil, or_false] at hd
  rcases hd with rfl | rfl | rfl | rfl
  · rfl
  · exact pd_tupI (by omega) t2
  · refine pd_tupI (by rw [List.length_map]; omega) fun e he => ?_
    obtain ⟨y, hy, rfl⟩ := List.mem_map.mp he
    exact s2 y hy
  · exact pd_tupI (by omega) hcs.2
end
end Rdr

set_option Elab.async false
set_option linter.all false
set_option maxRecDepth 100000
set_option maxHeartbeats 4000000
set_option autoImplicit false
/-! The reader: a new reader, read. -/
namespace Rdr
open PySem PySem.Spec PyProof.Rows L2 Bo
def readP (x : Str) : Option D := (stmP (wordsOf x) 0).bind fun (d, p) => if p = (wordsOf x).length ∧ stmB d = true ∧ txtD d = x then some d else none
section
variable {hc : Hc}
theorem make {x : Str} {sl : Sl} (e0 : sl[0]? = some (some (.str x))) (hx : x.cps.toList.length ≤ 19000) : ∃ h', makE 2 c_Reader____init__ (kA (vE 0) (nA)) sl hc = .ok (.loc hc.next) h' ∧ At hc.next (wordsOf x) 0 h' ∧ Mv hc.next (hc.new (.ins 2 [])) h' := by
  obtain ⟨h0, hh0⟩ : ∃ h0, h0 = hc.new (.ins 2 []) := ⟨_, rfl⟩
  have g0 : h0.get hc.next = some (.ins 2 []) := by rw [hh0, Hc.get_new, if_pos rfl]
  have n0 : h0.next = hc.next + 1 := by rw [hh0]; rfl
  obtain ⟨h1, e1, n1, k1', f1⟩ := words_in (hc := h0) hx
  have g1 : h1.get hc.next = some (.ins 2 []) := by rw [k1' _ (by omega), g0]
  obtain ⟨v, hv⟩ : ∃ v, v = D.lst ((wordsOf x).map D.str) := ⟨_, rfl⟩
  rw [← hv] at e1
  have p1 : putFld 2 "words" h1 (.loc hc.next) v = some (h1.set hc.next (.ins 2 [("words", v)])) := by
    simp only [putFld, g1]
    rw [if_pos ⟨trivial, by show 0 < 1000; omega⟩]
    rfl
  obtain ⟨h2, hh2⟩ : ∃ h2, h2 = h1.set hc.next (.ins 2 [("words", v)]) := ⟨_, rfl⟩
  rw [← hh2] at p1
  have g2 : h2.get hc.next = some (.ins 2 [("words", v)]) := by rw [hh2]; exact get_set_self g1
  have e : putFD "place" (.int 0) ([("words", v)] : List (Str × D)) = ([("words", v), ("place", .int 0)] : List (Str × D)) := rfl
  have p2 : putFld 2 "place" h2 (.loc hc.next) (.int 0) = some (h2.set hc.next (.ins 2 [("words", v), ("place", .int 0)])) := by
    simp only [putFld, g2, e]
    rw [if_pos ⟨trivial, by show 1 < 1000; omega⟩]
  have t0 : nT (bT (unE (isiD .str) (vE 1))) [some (.loc hc.next), some (.str x)] h0 = .ok false h0 := nTO (b := true) (bO (unO (a := .str x) rfl rfl))
  have t1 : fldS 2 "words" (vE 0) (callE c_words_in (kA (vE 1) (nA))) [some (.loc hc.next), some (.str x)] h0 = .nx [some (.loc hc.next), some (.str x)] h2 := by
    have c : callE c_words_in (kA (vE 1) (nA)) [some (.loc hc.next), some (.str x)] h0 = .ok v h1 := callO (as := [.str x]) (hc1 := h0) rfl e1
    unfold fldS
    rw [c]
    show (match putFld 2 "words" h1 (.loc hc.next) v with
      | some hc3 => RS.nx _ hc3
      | none => .bad) = _
    rw [p1]
  have t2 : fldS 2 "place" (vE 0) (cE (.int 0)) [some (.loc hc.next), some (.str x)] h2 = .nx [some (.loc hc.next), some (.str x)] (h2.set hc.next (.ins 2 [("words", v), ("place", .int 0)])) := by
    show (match putFld 2 "place" h2 (.loc hc.next) (.int 0) with
      | some hc3 => RS.nx _ hc3
      | none => .bad) = _
    rw [p2]
  have ini : c_Reader____init__ [.loc hc.next, .str x] h0 = .ok .non (h2.set hc.next (.ins 2 [("words", v), ("place", .int 0)])) := fnNx (sl := [some (.loc hc.next), some (.str x)]) rfl ((seqN (ifN t0 rfl)).trans ((seqN t1).trans t2))
  refine ⟨h2.set hc.next (.ins 2 [("words", v), ("place", .int 0)]), ?_, ?_, ?_⟩
  · unfold makE
    rw [k1 (vO e0)]
    show makR 2 c_Reader____init__ [.str x] hc = _
    unfold makR
    rw [← hh0, ini]
  · show (h2.set hc.next _).get hc.next = some (rdO (wordsOf x) 0)
    rw [get_set_self g2, hv]
    rfl
  · have m1 : Mv hc.next h0 h1 := ⟨by omega, fun q hq _ => k1' q hq, f1 _ (by omega)⟩
    have m2 : Mv hc.next h0 h2 := by rw [hh2]; exact m1.trans mv_set
    rw [← hh0]
    exact m2.trans mv_set
theorem read_text {x : Str} (hx : x.cps.toList.length ≤ 19000) (hs : PyData.strOk x = true) : ∃ h', Mv hc.next (hc.new (.ins 2 [])) h' ∧ c_read [.str x] hc = (match readP x with
    | some d => .ok d h'
    | none => .exc 1 h') ∧ ∀ d, readP x = some d → pdB 10 d = true ∧ stmB d = true ∧ txtD d = x := by
  obtain ⟨wl, ww⟩ := wordsOf_ok hx hs
  have hsl : sizeLine = 16777216 := sizeLine_eq
  have hw : ∀ w ∈ wordsOf x, w.length ≤ sizeLine := fun w hw => by have := (ww w hw).1; omega
  have hs2 : ∀ w ∈ wordsOf x, PyData.strOk w = true := fun w hw => (ww w hw).2
  obtain ⟨h1, e1, a1, m1⟩ := make (hc := hc) (x := x) (sl := [some (.str x), none, none]) rfl hx
  have r1 : hc.next < h1.next := Nat.lt_of_lt_of_le (Nat.lt_succ_self _) m1.nx
  have t1 : asgS 1 (makE 2 c_Reader____init__ (kA (vE 0) (nA))) [some (.str x), none, none] hc = .nx [some (.str x), some (.loc hc.next), none] h1 := asgO e1
  have mth1 : ∀ {m : Str} {cl : List D → Hc → Res D} {sl : Sl} {p : Nat} {h : Hc}, At hc.next (wordsOf x) p h → sl[1]? = some (some (.loc hc.next)) → ([("words", .lst ((wordsOf x).map D.str)), ("place", .int (p : Int))] : List (Str × D)).lookup m = none → mthE 2 m cl (vE 1) nA sl h = cl [.loc hc.next] h := fun {m cl sl p h} a e0 hm => by
    have a' : h.get hc.next = _ := a
    unfold mthE
    rw [vO e0]
    simp only [Res.bind, mthR, a', rdO, hm, and_self, if_true, nA]
  have st := take_statement wl hw hs2 a1 r1
  unfold readP
  cases y : stmP (wordsOf x) 0 with
  | none =>
    rw [y] at st
    obtain ⟨h2, p2, e2, a2, m2⟩ := st
    exact ⟨h2, m1.trans m2, fnX (sl' := [some (.str x), some (.loc hc.next), none]) rfl ((seqN t1).trans (seqX (asgX ((mth1 a1 rfl rfl).trans e2)))), fun d hd => by cases hd⟩
  | some dp =>
    obtain ⟨d, p⟩ := dp
    have pd := pd_stm ww y
    rw [y] at st
    obtain ⟨h2, e2, a2, m2⟩ := st
    have t2 : asgS 2 (mthE 2 "take_statement" c_Reader__take_statement (vE 1) nA) [some (.str x), some (.loc hc.next), none] h1 = .nx [some (.str x), some (.loc hc.next), some d] h2 := asgO ((mth1 a1 rfl rfl).trans e2)
    have fi := finish a2
    refine ⟨h2, m1.trans m2, ?_, ?_⟩
    · show _ = (match (if p = (wordsOf x).length ∧ stmB d = true ∧ txtD d = x then some d else none) with
        | some d => Res.ok d h2
        | none => .exc 1 h2)
      by_cases q : p = (wordsOf x).length
      · rw [if_pos q] at fi
        have t3 : exS (mthE 2 "finish" c_Reader__finish (vE 1) nA) [some (.str x), some (.loc hc.next), some d] h2 = .nx [some (.str x), some (.loc hc.next), some d] h2 := exO ((mth1 a2 rfl rfl).trans fi)
        have t4 : nT (bT (callE c_is_statement (kA (vE 2) (nA)))) [some (.str x), some (.loc hc.next), some d] h2 = .ok (!stmB d) h2 := nTO (bO (callO (k1 (a := d) rfl) (stm_pd pd (by omega))))
        cases z : stmB d with
        | false =>
          rw [z] at t4
          rw [if_neg (by simp)]
          exact fnX (sl' := [some (.str x), some (.loc hc.next), some d]) rfl ((seqN t1).trans ((seqN t2).trans ((seqN t3).trans (seqX (ifY (orY t4) rfl)))))
        | true =>
          rw [z] at t4
          have t5 : bT (opE neO (callE c_write (kA (vE 2) (nA))) (vE 0)) [some (.str x), some (.loc hc.next), some d] h2 = .ok (!decide (txtD d = x)) h2 := bO (opO (a := .str (txtD d)) (b := .str x) (callO (k1 (a := d) rfl) (write_pd z)) rfl (ne_str _ _))
          by_cases w : txtD d = x
          · rw [decide_eq_true w] at t5
            rw [if_pos ⟨q, rfl, w⟩]
            exact fnO rfl ((seqN t1).trans ((seqN t2).trans ((seqN t3).trans ((seqN (ifN (orN t4 t5) rfl)).trans (retO rfl)))))
          · rw [decide_eq_false w] at t5
            rw [if_neg (by rintro ⟨_, _, h⟩; exact w h)]
            exact fnX (sl' := [some (.str x), some (.loc hc.next), some d]) rfl ((seqN t1).trans ((seqN t2).trans ((seqN t3).trans (seqX (ifY (orN t4 t5) rfl)))))
      · rw [if_neg q] at fi
        rw [if_neg (by rintro ⟨h, _⟩; exact q h)]
        exact fnX (sl' := [some (.str x), some (.loc hc.next), some d]) rfl ((seqN t1).trans ((seqN t2).trans (seqX (exX ((mth1 a2 rfl rfl).trans fi)))))
    · intro d' hd
      have hd' : (if p = (wordsOf x).length ∧ stmB d = true ∧ txtD d = x then some d else none) = some d' := hd
      split at hd'
      · rename_i hh
        cases hd'
        exact ⟨pd, hh.2.1, hh.2.2⟩
      · cases hd'
theorem read_no {d : D} (h : isiD .str (hc.new (.ins 2 [])) d = some (.bl false)) : c_read [d] hc = .exc 1 (hc.new (.ins 2 [])) := by
  have t0 : nT (bT (unE (isiD .str) (vE 1))) [some (.loc hc.next), some d] (hc.new (.ins 2 [])) = .ok true (hc.new (.ins 2 [])) := nTO (b := false) (bO (unO (a := d) rfl h))
  have ini : c_Reader____init__ [.loc hc.next, d] (hc.new (.ins 2 [])) = .exc 1 (hc.new (.ins 2 [])) := fnX (sl' := [some (.loc hc.next), some d]) rfl (seqX (ifY t0 rfl))
  have mk : makE 2 c_Reader____init__ (kA (vE 0) (nA)) [some d, none, none] hc = .exc 1 (hc.new (.ins 2 [])) := by
    unfold makE
    rw [k1 (vO (d := d) rfl)]
    show makR 2 c_Reader____init__ [d] hc = _
    unfold makR
    rw [ini]
  exact fnX (sl' := [some d, none, none]) rfl (seqX (asgX mk))
end
/-! ### read, and what it made is forgotten -/
structure Tidy (h : Hc) : Prop where
  fil : h.m.filter (fun p => decide (p.1 < h.next)) = h.m
  low : h.low h.next = true
theorem lows_pd {k n : Nat} (hr : ∀ d, pdB k d = true → lowD n d = true) : ∀ {ds : List D}, (∀ d ∈ ds, pdB k d = true) → lowDs n ds = true
  | [], _ => by simp [lowDs]
  | d :: ds, h => by
    rw [lowDs, hr d (h d List.mem_cons_self), lows_pd hr fun e he => h e (List.mem_cons_of_mem _ he)]
    rfl
theorem low_pd {n : Nat} : ∀ (k : Nat) (d : D), pdB k d = true → lowD n d = true
  | _, .non, _ => by simp [lowD]
  | _, .bl _, _ => by simp [lowD]
  | _, .int _, _ => by simp [lowD]
  | _, .str _, _ => by simp [lowD]
  | 0, .tup _, h => by simp [pdB] at h
  | 0, .lst _, h => by simp [pdB] at h
  | k + 1, .tup ds, h => by
    obtain ⟨m, e, _, h2⟩ := pd_tup h
    cases e
    rw [lowD]
    exact lows_pd (low_pd k) h2
  | k + 1, .lst ds, h => by
    obtain ⟨m, e, _, h2⟩ := pd_lst h
    cases e
    rw [lowD]
    exact lows_pd (low_pd k) h2
  | k, .kl _, h => by cases k <;> simp [pdB] at h
  | k, .dct _ _, h => by cases k <;> simp [pdB] at h
  | k, .loc _, h => by cases k <;> simp [pdB] at h
  | k, .fn _, h => by cases k <;> simp [pdB] at h
  | k, .ty _, h => by cases k <;> simp [pdB] at h
  | k, .ex _, h => by cases k <;> simp [pdB] at h
theorem tidy_cut {h h' : Hc} (t : Tidy h) (m : Mv h.next (h.new (.ins 2 [])) h') : h'.low h.next = true ∧ h'.cut h.next = h := by
  have e : h'.m.filter (fun p => decide (p.1 < h.next)) = h.m := by
    rw [m.fil]
    have : decide (h.next < h.next) = false := decide_eq_false (by omega)
    show ((h.next, Ob.ins 2 []) :: h.m).filter _ = _
    rw [List.filter_cons, if_neg (by rw [this]; decide)]
    exact t.fil
  refine ⟨?_, ?_⟩
  · unfold Hc.low
    rw [e, ← t.fil]
    exact t.low
  · unfold Hc.cut
    rw [e]
theorem read_gc {hc : Hc} {x : Str} (t : Tidy hc) (hx : x.cps.toList.length ≤ 19000) (hs : PyData.strOk x = true) : gcR c_read [.str x] hc = (match readP x with
    | some d => .ok d hc
    | none => .exc 1 hc) := by
  obtain ⟨h', m, e, pd⟩ := read_text (hc := hc) hx hs
  obtain ⟨c1, c2⟩ := tidy_cut t m
  unfold gcR
  rw [e]
  cases q : readP x with
  | none =>
    simp only [c1, if_true, c2]
  | some d =>
    have := low_pd (n := hc.next) 10 d (pd d q).1
    simp only [this, c1, Bool.and_self, if_true, c2]
theorem readP_ok {x : Str} {d : D} (hx : x.cps.toList.length ≤ 19000) (hs : PyData.strOk x = true) (h : readP x = some d) : pdB 10 d = true ∧ stmB d = true ∧ txtD d = x := by
  obtain ⟨h', m, e, pd⟩ := read_text (hc := ⟨0, []⟩) hx hs
  exact pd d h
theorem read_gcno {hc : Hc} {d : D} (t : Tidy hc) (h : isiD .str (hc.new (.ins 2 [])) d = some (.bl false)) : gcR c_read [d] hc = .exc 1 hc := by
  obtain ⟨c1, c2⟩ := tidy_cut t (Mv.refl (r := hc.next) (hc.new (.ins 2 [])))
  unfold gcR
  rw [read_no h]
  simp only [c1, if_true, c2]
end Rdr

set_option Elab.async false
set_option linter.all false
set_option maxRecDepth 100000
set_option maxHeartbeats 4000000
set_option autoImplicit false
/-! The walk: printed by wip/tr2.py. -/
namespace K13
open PySem PySem.Spec PyProof.Rows L2 Bo
def top (i : Nat) : Stmt := PySem.Challenge.pw_boundonce_k13_texts_typed.main.body.getD i (.Pass ⟨0, 0, 0, 0⟩)
def ancL : List (List Bool) := [[true, false], [true, true]]
def anc (c t : Nat) : Bool := (ancL.getD c []).getD t false
def excN : List Str := [("BoundError" : Str), ("InvalidText" : Str)]
def d_is_value : Sl → Hc → RS :=
  seqS (ifS (orT (nT (bT (unE (isiD .str) (vE 0)))) (nT (bT (chE leO leO (cE (.int 1)) (blE lenD (kA (vE 0) (nA))) (cE (.int 8)))))) (retS (cE (.bl false))) (nS))
  (retS (blE allD (kA (lcE [1] (nmG 1) (itE itA (vE 0)) (yT) (opE inO (vE 1) (cE (.str "abcdefghijklmnopqrstuvwxyz")))) (nA))))
def c_is_value : List D → Hc → Res D := fnR 1 2 d_is_value
def d_is_name : Sl → Hc → RS :=
  retS (andE (callE c_is_value (kA (vE 0) (nA))) (opE ninO (vE 0) (cE (.tup ((["select", "distinct", "as", "from", "where", "and", "in"] : List Str).map D.str)))))
def c_is_name : List D → Hc → Res D := fnR 1 1 d_is_name
def d_is_values : Sl → Hc → RS :=
  seqS (ifS (orT (nT (bT (unE (isiD .tup) (vE 0)))) (nT (bT (chE leO leO (cE (.int 1)) (blE lenD (kA (vE 0) (nA))) (cE (.int 8)))))) (retS (cE (.bl false))) (nS))
  (retS (andE (blE allD (kA (lcE [1] (nmG 1) (itE itA (vE 0)) (yT) (callE c_is_value (kA (vE 1) (nA)))) (nA))) (opE eqO (blE listD (kA (vE 0) (nA))) (blE sortSetD (kA (vE 0) (nA))))))
def c_is_values : List D → Hc → Res D := fnR 1 2 d_is_values
def d_is_column_form : Sl → Hc → RS :=
  seqS (ifS (orT (nT (bT (unE (isiD .tup) (vE 0)))) (bT (opE neO (blE lenD (kA (vE 0) (nA))) (cE (.int 2))))) (retS (cE (.bl false))) (nS))
  (retS (andE (orE (opE isO (opE ixD (vE 0) (cE (.int 0))) (cE .non)) (callE c_is_name (kA (opE ixD (vE 0) (cE (.int 0))) (nA)))) (callE c_is_name (kA (opE ixD (vE 0) (cE (.int 1))) (nA)))))
def c_is_column_form : List D → Hc → Res D := fnR 1 1 d_is_column_form
def d_is_call_form (self : List D → Hc → Res D) : Sl → Hc → RS :=
  seqS (ifS (orT (nT (bT (unE (isiD .tup) (vE 0)))) (orT (bT (opE neO (blE lenD (kA (vE 0) (nA))) (cE (.int 4)))) (orT (bT (opE eqO (vE 1) (cE (.int 0)))) (nT (bT (unE (isiD .str) (opE ixD (vE 0) (cE (.int 0))))))))) (retS (cE (.bl false))) (nS))
  (seqS (asG (tupH 4 (consG (nmG 2) (consG (nmG 3) (consG (nmG 4) (consG (nmG 5) (nilG)))))) (vE 0))
  (seqS (ifS (orT (bT (opE neO (vE 2) (cE (.str "call")))) (orT (nT (orT (bT (opE isO (vE 3) (cE .non))) (bT (callE c_is_name (kA (vE 3) (nA)))))) (nT (bT (callE c_is_name (kA (vE 4) (nA))))))) (retS (cE (.bl false))) (nS))
  (seqS (ifS (orT (nT (bT (unE (isiD .tup) (vE 5)))) (nT (bT (chE leO leO (cE (.int 1)) (blE lenD (kA (vE 5) (nA))) (cE (.int 2)))))) (retS (cE (.bl false))) (nS))
  (retS (blE allD (kA (lcE [6] (nmG 6) (itE itA (vE 5)) (yT) (orE (callE c_is_column_form (kA (vE 6) (nA))) (orE (callE c_is_value (kA (vE 6) (nA))) (callE self (kA (vE 6) (kA (opE subD (vE 1) (cE (.int 1))) (nA))))))) (nA)))))))
def c_is_call_form : Nat → List D → Hc → Res D
  | 0 => badC
  | n + 1 => fnR 2 7 (d_is_call_form (c_is_call_form n))
def d_is_told : Sl → Hc → RS :=
  seqS (matS (vE 0) (caseC (seqP 2 (consP (valP "star") (consP (capP 1) (nilP)))) yT (retS (andE (unE (isiD .tup) (vE 0)) (callE c_is_name (kA (vE 1) (nA))))) (caseC (seqP 3 (consP (valP "column") (consP (capP 2) (consP (capP 3) (nilP))))) yT (retS (andE (unE (isiD .tup) (vE 0)) (andE (callE c_is_column_form (kA (vE 2) (nA))) (callE c_is_name (kA (vE 3) (nA)))))) (caseC (seqP 3 (consP (valP "term") (consP (capP 4) (consP (capP 3) (nilP))))) yT (retS (andE (unE (isiD .tup) (vE 0)) (andE (orE (callE c_is_value (kA (vE 4) (nA))) (callE (c_is_call_form 20) (kA (vE 4) (kA (cE (.int 3)) (nA))))) (callE c_is_name (kA (vE 3) (nA)))))) (endC)))))
  (retS (cE (.bl false)))
def c_is_told : List D → Hc → Res D := fnR 1 5 d_is_told
def d_is_source : Sl → Hc → RS :=
  seqS (ifS (orT (nT (bT (unE (isiD .tup) (vE 0)))) (orT (bT (opE neO (blE lenD (kA (vE 0) (nA))) (cE (.int 3)))) (nT (orT (bT (opE isO (opE ixD (vE 0) (cE (.int 0))) (cE .non))) (bT (callE c_is_name (kA (opE ixD (vE 0) (cE (.int 0))) (nA)))))))) (retS (cE (.bl false))) (nS))
  (retS (andE (callE c_is_name (kA (opE ixD (vE 0) (cE (.int 1))) (nA))) (callE c_is_name (kA (opE ixD (vE 0) (cE (.int 2))) (nA)))))
def c_is_source : List D → Hc → Res D := fnR 1 1 d_is_source
def d_is_condition : Sl → Hc → RS :=
  seqS (matS (vE 0) (caseC (seqP 3 (consP (valP "equal") (consP (capP 1) (consP (capP 2) (nilP))))) yT (retS (andE (unE (isiD .tup) (vE 0)) (andE (callE c_is_column_form (kA (vE 1) (nA))) (callE c_is_column_form (kA (vE 2) (nA)))))) (caseC (seqP 3 (consP (valP "in") (consP (capP 1) (consP (capP 3) (nilP))))) yT (retS (andE (unE (isiD .tup) (vE 0)) (andE (callE c_is_column_form (kA (vE 1) (nA))) (callE c_is_values (kA (vE 3) (nA)))))) (endC))))
  (retS (cE (.bl false)))
def c_is_condition : List D → Hc → Res D := fnR 1 4 d_is_condition
def dsp_1 : Nat → Option (List D → Hc → Res D)
  | 3 => some c_is_condition
  | 4 => some c_is_told
  | 5 => some c_is_source
  | _ => none
def d_is_row_of : Sl → Hc → RS :=
  retS (andE (unE (isiD .tup) (vE 0)) (andE (chE leO leO (vE 1) (blE lenD (kA (vE 0) (nA))) (vE 2)) (blE allD (kA (lcE [4] (nmG 4) (itE itA (vE 0)) (yT) (clE 3 dsp_1 (kA (vE 4) (nA)))) (nA)))))
def c_is_row_of : List D → Hc → Res D := fnR 4 5 d_is_row_of
def d_is_statement : Sl → Hc → RS :=
  seqS (ifS (orT (nT (bT (unE (isiD .tup) (vE 0)))) (orT (bT (opE neO (blE lenD (kA (vE 0) (nA))) (cE (.int 4)))) (nT (bT (unE (isiD .bl) (opE ixD (vE 0) (cE (.int 0)))))))) (retS (cE (.bl false))) (nS))
  (seqS (ifS (orT (nT (bT (callE c_is_row_of (kA (opE ixD (vE 0) (cE (.int 1))) (kA (cE (.int 1)) (kA (cE (.int 8)) (kA (cE (.fn 4)) (nA)))))))) (nT (bT (callE c_is_row_of (kA (opE ixD (vE 0) (cE (.int 2))) (kA (cE (.int 1)) (kA (cE (.int 4)) (kA (cE (.fn 5)) (nA))))))))) (retS (cE (.bl false))) (nS))
  (seqS (ifS (bT (opE ltO (blE lenX (kA (dcE [1] (nmG 1) (itE itA (opE ixD (vE 0) (cE (.int 2)))) (yT) (opE ixD (vE 1) (cE (.int 2))) (cE (.bl true))) (nA))) (blE lenD (kA (opE ixD (vE 0) (cE (.int 2))) (nA))))) (retS (cE (.bl false))) (nS))
  (retS (callE c_is_row_of (kA (opE ixD (vE 0) (cE (.int 3))) (kA (cE (.int 0)) (kA (cE (.int 8)) (kA (cE (.fn 3)) (nA)))))))))
def c_is_statement : List D → Hc → Res D := fnR 1 2 d_is_statement
def d_write_column : Sl → Hc → RS :=
  retS (ifE (bT (opE isO (opE ixD (vE 0) (cE (.int 0))) (cE .non))) (opE ixD (vE 0) (cE (.int 1))) (fsE [unE fmtD (opE ixD (vE 0) (cE (.int 0))), cE (.str "."), unE fmtD (opE ixD (vE 0) (cE (.int 1)))]))
def c_write_column : List D → Hc → Res D := fnR 1 1 d_write_column
def d_write_term (self : List D → Hc → Res D) : Sl → Hc → RS :=
  seqS (ifS (bT (unE (isiD .str) (vE 0))) (retS (fsE [cE (.str "'"), unE fmtD (vE 0), cE (.str "'")])) (nS))
  (seqS (ifS (bT (opE eqO (blE lenD (kA (vE 0) (nA))) (cE (.int 2)))) (retS (callE c_write_column (kA (vE 0) (nA)))) (nS))
  (seqS (asgS 1 (joinE (cE (.str ", ")) (lcE [2] (nmG 2) (itE itA (opE ixD (vE 0) (cE (.int 3)))) (yT) (callE self (kA (vE 2) (nA))))))
  (retS (fsE [unE fmtD (callE c_write_column (kA (slE (vE 0) (sO (cE (.int 1))) (sO (cE (.int 3)))) (nA))), cE (.str "("), unE fmtD (vE 1), cE (.str ")")]))))
def c_write_term : Nat → List D → Hc → Res D
  | 0 => badC
  | n + 1 => fnR 1 3 (d_write_term (c_write_term n))
def d_write_told : Sl → Hc → RS :=
  seqS (matS (vE 0) (caseC (seqP 2 (consP (valP "star") (consP (capP 1) (nilP)))) yT (retS (fsE [unE fmtD (vE 1), cE (.str ".*")])) (caseC (seqP 3 (consP (valP "column") (consP (seqP 2 (consP (capP 1) (consP (capP 2) (nilP)))) (consP (capP 3) (nilP))))) (bT (opE eqO (vE 2) (vE 3))) (retS (callE c_write_column (kA (tupE (kA (vE 1) (kA (vE 2) (nA)))) (nA)))) (endC))))
  (retS (fsE [unE fmtD (callE (c_write_term 20) (kA (opE ixD (vE 0) (cE (.int 1))) (nA))), cE (.str " as "), unE fmtD (opE ixD (vE 0) (cE (.int 2)))]))
def c_write_told : List D → Hc → Res D := fnR 1 4 d_write_told
def d_write_source : Sl → Hc → RS :=
  seqS (asgS 1 (callE c_write_column (kA (slE (vE 0) nO (sO (cE (.int 2)))) (nA))))
  (retS (ifE (bT (opE eqO (opE ixD (vE 0) (cE (.int 1))) (opE ixD (vE 0) (cE (.int 2))))) (vE 1) (fsE [unE fmtD (vE 1), cE (.str " "), unE fmtD (opE ixD (vE 0) (cE (.int 2)))])))
def c_write_source : List D → Hc → Res D := fnR 1 2 d_write_source
def d_write_values : Sl → Hc → RS :=
  seqS (asgS 1 (joinE (cE (.str ", ")) (lcE [2] (nmG 2) (itE itA (vE 0)) (yT) (fsE [cE (.str "'"), unE fmtD (vE 2), cE (.str "'")]))))
  (retS (fsE [cE (.str "("), unE fmtD (vE 1), cE (.str ")")]))
def c_write_values : List D → Hc → Res D := fnR 1 3 d_write_values
def d_write_condition : Sl → Hc → RS :=
  seqS (ifS (bT (opE eqO (opE ixD (vE 0) (cE (.int 0))) (cE (.str "equal")))) (retS (fsE [unE fmtD (callE c_write_column (kA (opE ixD (vE 0) (cE (.int 1))) (nA))), cE (.str " = "), unE fmtD (callE c_write_column (kA (opE ixD (vE 0) (cE (.int 2))) (nA)))])) (nS))
  (retS (fsE [unE fmtD (callE c_write_column (kA (opE ixD (vE 0) (cE (.int 1))) (nA))), cE (.str " in "), unE fmtD (callE c_write_values (kA (opE ixD (vE 0) (cE (.int 2))) (nA)))]))
def c_write_condition : List D → Hc → Res D := fnR 1 1 d_write_condition
def d_write : Sl → Hc → RS :=
  seqS (asG (tupH 4 (consG (nmG 1) (consG (nmG 2) (consG (nmG 3) (consG (nmG 4) (nilG)))))) (vE 0))
  (seqS (asgS 5 (ifE (bT (vE 1)) (cE (.str "select distinct ")) (cE (.str "select "))))
  (seqS (asgS 5 (opE addD (vE 5) (joinE (cE (.str ", ")) (lcE [6] (nmG 6) (itE itA (vE 2)) (yT) (callE c_write_told (kA (vE 6) (nA)))))))
  (seqS (asgS 5 (opE addD (opE addD (vE 5) (cE (.str " from "))) (joinE (cE (.str ", ")) (lcE [6] (nmG 6) (itE itA (vE 3)) (yT) (callE c_write_source (kA (vE 6) (nA)))))))
  (retS (opE addD (opE addD (vE 5) (ifE (bT (opE neO (vE 4) (tupE (nA)))) (cE (.str " where ")) (cE (.str "")))) (joinE (cE (.str " and ")) (lcE [6] (nmG 6) (itE itA (vE 4)) (yT) (callE c_write_condition (kA (vE 6) (nA))))))))))
def c_write : List D → Hc → Res D := fnR 1 7 d_write
def d_is_letter : Sl → Hc → RS :=
  retS (chE leO leO (cE (.str "a")) (vE 0) (cE (.str "z")))
def c_is_letter : List D → Hc → Res D := fnR 1 1 d_is_letter
def d_words_in : Sl → Hc → RS :=
  seqS (asG (tupG 2 (consG (nmG 1) (consG (nmG 2) (nilG)))) (tupE (kA (newE (nA)) (kA (cE (.int 0)) (nA)))))
  (seqS (whileS (bT (opE ltO (vE 2) (blE lenD (kA (vE 0) (nA))))) (seqS (asgS 3 (opE addD (vE 2) (cE (.int 1))))
    (seqS (ifS (bT (callE c_is_letter (kA (opE ixD (vE 0) (vE 2)) (nA)))) (whileS (andT (bT (opE ltO (vE 3) (blE lenD (kA (vE 0) (nA))))) (bT (callE c_is_letter (kA (opE ixD (vE 0) (vE 3)) (nA))))) (augS 3 (fun a b => a + b) (cE (.int 1))) 20000) (ifS (bT (opE eqO (opE ixD (vE 0) (vE 2)) (cE (.str "'")))) (seqS (whileS (andT (bT (opE ltO (vE 3) (blE lenD (kA (vE 0) (nA))))) (bT (callE c_is_letter (kA (opE ixD (vE 0) (vE 3)) (nA))))) (augS 3 (fun a b => a + b) (cE (.int 1))) 20000)
        (augS 3 (fun a b => a + b) (cE (.int 1)))) (nS)))
    (seqS (exS (mtE appD (vE 1) (kA (slE (vE 0) (sO (vE 2)) (sO (vE 3))) (nA))))
    (asgS 2 (vE 3))))) 20000)
  (retS (frzE (vE 1))))
def c_words_in : List D → Hc → Res D := fnR 1 4 d_words_in
def d_Reader____init__ : Sl → Hc → RS :=
  seqS (ifS (nT (bT (unE (isiD .str) (vE 1)))) (raiS 1 (cE (.str "an object is no text of a statement"))) (nS))
  (seqS (fldS 2 "words" (vE 0) (callE c_words_in (kA (vE 1) (nA))))
  (fldS 2 "place" (vE 0) (cE (.int 0))))
def c_Reader____init__ : List D → Hc → Res D := fnR 2 2 d_Reader____init__
def d_Reader__next_word : Sl → Hc → RS :=
  retS (ifE (bT (opE ltO (unE (fldD 2 "place") (vE 0)) (blE lenD (kA (unE (fldD 2 "words") (vE 0)) (nA))))) (opE ixD (unE (fldD 2 "words") (vE 0)) (unE (fldD 2 "place") (vE 0))) (cE (.str "")))
def c_Reader__next_word : List D → Hc → Res D := fnR 1 1 d_Reader__next_word
def d_Reader__take : Sl → Hc → RS :=
  seqS (asgS 1 (mthE 2 "next_word" c_Reader__next_word (vE 0) nA))
  (seqS (fldA 2 "place" (fun a b => a + b) (vE 0) (cE (.int 1)))
  (retS (vE 1)))
def c_Reader__take : List D → Hc → Res D := fnR 1 2 d_Reader__take
def d_Reader__skip : Sl → Hc → RS :=
  forS (nmG 2) (itE itA (vE 1)) (ifS (bT (opE neO (mthE 2 "take" c_Reader__take (vE 0) nA) (vE 2))) (raiS 1 (cE (.str "an object is no text of a statement"))) (nS))
def c_Reader__skip : List D → Hc → Res D := fnStar 1 3 d_Reader__skip
def d_Reader__comes : Sl → Hc → RS :=
  seqS (asgS 2 (blE lenD (kA (vE 1) (nA))))
  (seqS (ifS (bT (opE neO (slE (unE (fldD 2 "words") (vE 0)) (sO (unE (fldD 2 "place") (vE 0))) (sO (opE addD (unE (fldD 2 "place") (vE 0)) (vE 2)))) (blE listD (kA (vE 1) (nA))))) (retS (cE (.bl false))) (nS))
  (seqS (fldA 2 "place" (fun a b => a + b) (vE 0) (vE 2))
  (retS (cE (.bl true)))))
def c_Reader__comes : List D → Hc → Res D := fnStar 1 3 d_Reader__comes
def d_Reader__take_name : Sl → Hc → RS :=
  seqS (asgS 1 (mthE 2 "take" c_Reader__take (vE 0) nA))
  (seqS (ifS (nT (bT (callE c_is_name (kA (vE 1) (nA))))) (raiS 1 (cE (.str "an object is no text of a statement"))) (nS))
  (retS (vE 1)))
def c_Reader__take_name : List D → Hc → Res D := fnR 1 2 d_Reader__take_name
def d_Reader__take_value : Sl → Hc → RS :=
  seqS (asgS 1 (mthE 2 "take" c_Reader__take (vE 0) nA))
  (seqS (ifS (orT (bT (opE ltO (blE lenD (kA (vE 1) (nA))) (cE (.int 3)))) (orT (bT (opE neO (opE ixD (vE 1) (cE (.int 0))) (cE (.str "'")))) (bT (opE neO (opE ixD (vE 1) (unE negD (cE (.int 1)))) (cE (.str "'")))))) (raiS 1 (cE (.str "an object is no text of a statement"))) (nS))
  (retS (slE (vE 1) (sO (cE (.int 1))) (sO (unE negD (cE (.int 1)))))))
def c_Reader__take_value : List D → Hc → Res D := fnR 1 2 d_Reader__take_value
def d_Reader__take_column : Sl → Hc → RS :=
  seqS (asgS 1 (mthE 2 "take_name" c_Reader__take_name (vE 0) nA))
  (retS (ifE (bT (mthE 2 "comes" c_Reader__comes (vE 0) (kA (cE (.str ".")) (nA)))) (tupE (kA (vE 1) (kA (mthE 2 "take_name" c_Reader__take_name (vE 0) nA) (nA)))) (tupE (kA (cE .non) (kA (vE 1) (nA))))))
def c_Reader__take_column : List D → Hc → Res D := fnR 1 2 d_Reader__take_column
def d_Reader__is_label : Sl → Hc → RS :=
  seqS (ifS (bT (opE eqO (slE (unE (fldD 2 "words") (vE 0)) (sO (opE addD (unE (fldD 2 "place") (vE 0)) (cE (.int 1)))) (sO (opE addD (unE (fldD 2 "place") (vE 0)) (cE (.int 2))))) (lstE (kA (cE (.str "where")) (nA))))) (retS (cE (.bl false))) (nS))
  (seqS (exS (mthE 2 "skip" c_Reader__skip (vE 0) (kA (cE (.str " ")) (nA))))
  (retS (cE (.bl true))))
def c_Reader__is_label : List D → Hc → Res D := fnR 1 1 d_Reader__is_label
def d_Reader__take_source : Sl → Hc → RS :=
  seqS (asgS 1 (mthE 2 "take_column" c_Reader__take_column (vE 0) nA))
  (seqS (asgS 2 (ifE (andT (bT (opE eqO (mthE 2 "next_word" c_Reader__next_word (vE 0) nA) (cE (.str " ")))) (bT (mthE 2 "is_label" c_Reader__is_label (vE 0) nA))) (mthE 2 "take_name" c_Reader__take_name (vE 0) nA) (opE ixD (vE 1) (cE (.int 1)))))
  (retS (tupE (sA (vE 1) (kA (vE 2) (nA))))))
def c_Reader__take_source : List D → Hc → Res D := fnR 1 3 d_Reader__take_source
def d_Reader__take_part (self : Nat → List D → Hc → Res D) : Sl → Hc → RS :=
  seqS (ifS (bT (opE eqO (vE 1) (cE (.str "name")))) (retS (mthE 2 "take_name" c_Reader__take_name (vE 0) nA)) (nS))
  (seqS (ifS (bT (opE eqO (vE 1) (cE (.str "value")))) (retS (mthE 2 "take_value" c_Reader__take_value (vE 0) nA)) (nS))
  (seqS (ifS (bT (opE eqO (vE 1) (cE (.str "told")))) (retS (mthE 2 "take_told" (self 3) (vE 0) nA)) (nS))
  (retS (ifE (bT (opE eqO (vE 1) (cE (.str "source")))) (mthE 2 "take_source" c_Reader__take_source (vE 0) nA) (mthE 2 "take_term" (self 2) (vE 0) (kA (vE 1) (nA)))))))
def d_Reader__take_parts (self : Nat → List D → Hc → Res D) : Sl → Hc → RS :=
  seqS (asgS 2 (newE (kA (mthE 2 "take_part" (self 0) (vE 0) (kA (vE 1) (nA))) (nA))))
  (seqS (whileS (bT (mthE 2 "comes" c_Reader__comes (vE 0) (kA (cE (.str ",")) (kA (cE (.str " ")) (nA))))) (exS (mtE appD (vE 2) (kA (mthE 2 "take_part" (self 0) (vE 0) (kA (vE 1) (nA))) (nA)))) 20000)
  (retS (blE tupleD (kA (vE 2) (nA)))))
def d_Reader__take_term (self : Nat → List D → Hc → Res D) : Sl → Hc → RS :=
  seqS (ifS (bT (opE eqO (slE (mthE 2 "next_word" c_Reader__next_word (vE 0) nA) nO (sO (cE (.int 1)))) (cE (.str "'")))) (retS (mthE 2 "take_value" c_Reader__take_value (vE 0) nA)) (nS))
  (seqS (asgS 2 (mthE 2 "take_column" c_Reader__take_column (vE 0) nA))
  (seqS (ifS (orT (bT (opE eqO (vE 1) (cE (.int 0)))) (nT (bT (mthE 2 "comes" c_Reader__comes (vE 0) (kA (cE (.str "(")) (nA)))))) (retS (vE 2)) (nS))
  (seqS (asgS 3 (mthE 2 "take_parts" (self 1) (vE 0) (kA (opE subD (vE 1) (cE (.int 1))) (nA))))
  (seqS (exS (mthE 2 "skip" c_Reader__skip (vE 0) (kA (cE (.str ")")) (nA))))
  (retS (tupE (kA (cE (.str "call")) (sA (vE 2) (kA (vE 3) (nA))))))))))
def d_Reader__take_told (self : Nat → List D → Hc → Res D) : Sl → Hc → RS :=
  seqS (ifS (bT (opE eqO (slE (unE (fldD 2 "words") (vE 0)) (sO (opE addD (unE (fldD 2 "place") (vE 0)) (cE (.int 1)))) (sO (opE addD (unE (fldD 2 "place") (vE 0)) (cE (.int 3))))) (lstE (kA (cE (.str ".")) (kA (cE (.str "*")) (nA)))))) (seqS (asgS 1 (mthE 2 "take_name" c_Reader__take_name (vE 0) nA))
    (seqS (exS (mthE 2 "skip" c_Reader__skip (vE 0) (kA (cE (.str ".")) (kA (cE (.str "*")) (nA)))))
    (retS (tupE (kA (cE (.str "star")) (kA (vE 1) (nA))))))) (nS))
  (seqS (asgS 2 (mthE 2 "take_term" (self 2) (vE 0) (kA (cE (.int 3)) (nA))))
  (seqS (asgS 3 (andE (unE (isiD .tup) (vE 2)) (opE eqO (blE lenD (kA (vE 2) (nA))) (cE (.int 2)))))
  (seqS (ifS (andT (bT (vE 3)) (nT (bT (mthE 2 "comes" c_Reader__comes (vE 0) (kA (cE (.str " ")) (kA (cE (.str "as")) (kA (cE (.str " ")) (nA)))))))) (retS (tupE (kA (cE (.str "column")) (kA (vE 2) (kA (opE ixD (vE 2) (cE (.int 1))) (nA)))))) (nS))
  (seqS (ifS (nT (bT (vE 3))) (exS (mthE 2 "skip" c_Reader__skip (vE 0) (kA (cE (.str " ")) (kA (cE (.str "as")) (kA (cE (.str " ")) (nA)))))) (nS))
  (retS (tupE (kA (ifE (bT (vE 3)) (cE (.str "column")) (cE (.str "term"))) (kA (vE 2) (kA (mthE 2 "take_name" c_Reader__take_name (vE 0) nA) (nA))))))))))
def c_G2 : Nat → Nat → List D → Hc → Res D
  | 0, _ => badC
  | n + 1, 0 => fnR 2 2 (d_Reader__take_part (c_G2 n))
  | n + 1, 1 => fnR 2 3 (d_Reader__take_parts (c_G2 n))
  | n + 1, 2 => fnR 2 4 (d_Reader__take_term (c_G2 n))
  | n + 1, 3 => fnR 1 4 (d_Reader__take_told (c_G2 n))
  | _ + 1, _ => badC
def d_Reader__take_values : Sl → Hc → RS :=
  seqS (exS (mthE 2 "skip" c_Reader__skip (vE 0) (kA (cE (.str "(")) (nA))))
  (seqS (asgS 1 (mthE 2 "take_parts" (c_G2 20 1) (vE 0) (kA (cE (.str "value")) (nA))))
  (seqS (exS (mthE 2 "skip" c_Reader__skip (vE 0) (kA (cE (.str ")")) (nA))))
  (retS (vE 1))))
def c_Reader__take_values : List D → Hc → Res D := fnR 1 2 d_Reader__take_values
def d_Reader__take_condition : Sl → Hc → RS :=
  seqS (asgS 1 (mthE 2 "take_column" c_Reader__take_column (vE 0) nA))
  (seqS (exS (mthE 2 "skip" c_Reader__skip (vE 0) (kA (cE (.str " ")) (nA))))
  (seqS (ifS (bT (mthE 2 "comes" c_Reader__comes (vE 0) (kA (cE (.str "=")) (kA (cE (.str " ")) (nA))))) (retS (tupE (kA (cE (.str "equal")) (kA (vE 1) (kA (mthE 2 "take_column" c_Reader__take_column (vE 0) nA) (nA)))))) (nS))
  (seqS (exS (mthE 2 "skip" c_Reader__skip (vE 0) (kA (cE (.str "in")) (kA (cE (.str " ")) (nA)))))
  (retS (tupE (kA (cE (.str "in")) (kA (vE 1) (kA (mthE 2 "take_values" c_Reader__take_values (vE 0) nA) (nA)))))))))
def c_Reader__take_condition : List D → Hc → Res D := fnR 1 2 d_Reader__take_condition
def d_Reader__take_statement : Sl → Hc → RS :=
  seqS (exS (mthE 2 "skip" c_Reader__skip (vE 0) (kA (cE (.str "select")) (kA (cE (.str " ")) (nA)))))
  (seqS (asgS 1 (mthE 2 "comes" c_Reader__comes (vE 0) (kA (cE (.str "distinct")) (kA (cE (.str " ")) (nA)))))
  (seqS (asgS 2 (mthE 2 "take_parts" (c_G2 20 1) (vE 0) (kA (cE (.str "told")) (nA))))
  (seqS (exS (mthE 2 "skip" c_Reader__skip (vE 0) (kA (cE (.str " ")) (kA (cE (.str "from")) (kA (cE (.str " ")) (nA))))))
  (seqS (asG (tupG 2 (consG (nmG 3) (consG (nmG 4) (nilG)))) (tupE (kA (mthE 2 "take_parts" (c_G2 20 1) (vE 0) (kA (cE (.str "source")) (nA))) (kA (newE (nA)) (nA)))))
  (seqS (ifS (bT (mthE 2 "comes" c_Reader__comes (vE 0) (kA (cE (.str " ")) (kA (cE (.str "where")) (kA (cE (.str " ")) (nA)))))) (seqS (exS (mtE appD (vE 4) (kA (mthE 2 "take_condition" c_Reader__take_condition (vE 0) nA) (nA))))
    (whileS (bT (mthE 2 "comes" c_Reader__comes (vE 0) (kA (cE (.str " ")) (kA (cE (.str "and")) (kA (cE (.str " ")) (nA)))))) (exS (mtE appD (vE 4) (kA (mthE 2 "take_condition" c_Reader__take_condition (vE 0) nA) (nA)))) 20000)) (nS))
  (retS (tupE (kA (vE 1) (kA (vE 2) (kA (vE 3) (kA (blE tupleD (kA (vE 4) (nA))) (nA))))))))))))
def c_Reader__take_statement : List D → Hc → Res D := fnR 1 5 d_Reader__take_statement
def d_Reader__finish : Sl → Hc → RS :=
  ifS (bT (opE neO (unE (fldD 2 "place") (vE 0)) (blE lenD (kA (unE (fldD 2 "words") (vE 0)) (nA))))) (raiS 1 (cE (.str "an object is no text of a statement"))) (nS)
def c_Reader__finish : List D → Hc → Res D := fnR 1 1 d_Reader__finish
def d_read : Sl → Hc → RS :=
  seqS (asgS 1 (makE 2 c_Reader____init__ (kA (vE 0) (nA))))
  (seqS (asgS 2 (mthE 2 "take_statement" c_Reader__take_statement (vE 1) nA))
  (seqS (exS (mthE 2 "finish" c_Reader__finish (vE 1) nA))
  (seqS (ifS (orT (nT (bT (callE c_is_statement (kA (vE 2) (nA))))) (bT (opE neO (callE c_write (kA (vE 2) (nA))) (vE 0)))) (raiS 1 (cE (.str "an object is no text of a statement"))) (nS))
  (retS (vE 2)))))
def c_read : List D → Hc → Res D := fnR 1 3 d_read
def d_law_pen : Sl → Hc → RS :=
  retS (newE (kA (blE listD (kA (slE (vE 0) nO (sO (cE (.int 60)))) (nA))) (kA (cE (.int 0)) (kA (cE (.int 0)) (nA)))))
def c_law_pen : List D → Hc → Res D := fnR 1 1 d_law_pen
def d_law_next : Sl → Hc → RS :=
  seqS (asgS 1 (opE ixD (vE 0) (cE (.int 1))))
  (seqS (subS (vE 0) (cE (.int 1)) (opE addD (vE 1) (cE (.int 1))))
  (seqS (asgS 2 (opE addD (opE mulD (vE 1) (cE (.int 1087))) (cE (.int 73))))
  (seqS (ifS (bT (opE neO (opE ixD (vE 0) (cE (.int 0))) (lstE (nA)))) (asgS 2 (opE ixD (opE ixD (vE 0) (cE (.int 0))) (opE modD (blE intD (kA (vE 1) (nA))) (blE lenD (kA (opE ixD (vE 0) (cE (.int 0))) (nA)))))) (nS))
  (seqS (ifS (andT (bT (opE ltO (vE 1) (blE lenD (kA (opE ixD (vE 0) (cE (.int 0))) (nA))))) (bT (opE geO (vE 2) (opE powD (cE (.int 10)) (cE (.int 18)))))) (retS (vE 2)) (nS))
  (seqS (asgS 3 (opE modD (blE intD (kA (opE addD (opE addD (opE modD (blE intD (kA (vE 2) (nA))) (cE (.int 2147483587))) (opE mulD (vE 1) (cE (.int 30133)))) (cE (.int 101))) (nA))) (cE (.int 2147483587))))
  (seqS (asgS 4 (opE modD (blE intD (kA (opE addD (opE addD (opE mulD (vE 3) (vE 3)) (opE mulD (vE 1) (cE (.int 70111)))) (cE (.int 73))) (nA))) (cE (.int 2147483563))))
  (seqS (asgS 5 (opE modD (blE intD (kA (opE addD (opE addD (opE mulD (vE 4) (vE 4)) (vE 3)) (opE mulD (opE mulD (vE 1) (vE 1)) (cE (.int 47)))) (nA))) (cE (.int 2147483549))))
  (retS (opE addD (opE mulD (opE addD (opE mulD (vE 5) (cE (.int 2147483587))) (vE 4)) (cE (.int 2147483563))) (vE 3))))))))))
def c_law_next : List D → Hc → Res D := fnR 1 6 d_law_next
def d_law_draw : Sl → Hc → RS :=
  seqS (ifS (bT (opE ltO (opE ixD (vE 0) (cE (.int 2))) (vE 1))) (subS (vE 0) (cE (.int 2)) (callE c_law_next (kA (vE 0) (nA)))) (nS))
  (seqS (asgS 2 (opE modD (blE intD (kA (opE ixD (vE 0) (cE (.int 2))) (nA))) (vE 1)))
  (seqS (subS (vE 0) (cE (.int 2)) (opE fdivD (opE ixD (vE 0) (cE (.int 2))) (vE 1)))
  (retS (vE 2))))
def c_law_draw : List D → Hc → Res D := fnR 2 3 d_law_draw
def d_law_found : Sl → Hc → RS :=
  seqS (asG (tupG 2 (consG (nmG 1) (consG (nmG 2) (nilG)))) (tupE (kA (cE .non) (kA (cE .non) (nA)))))
  (seqS (tryS (ancT 2 anc 0) 3 1 (asgS 2 (callE (gcR c_read) (kA (vE 0) (nA)))))
  (seqS (ifS (bT (opE isO (vE 1) (cE .non))) (retS (vE 2)) (nS))
  (retS (ifE (andT (bT (unE (isXD (ancT 2 anc 1)) (vE 1))) (bT (unE (isXD (valT 2)) (vE 1)))) (cE (.str "none")) (cE (.str "other"))))))
def c_law_found : List D → Hc → Res D := fnR 1 4 d_law_found
def d_law_wrong : Sl → Hc → RS :=
  seqS (asgS 0 (newE (kA (cE (.str "")) (kA (cE (.str "select")) (kA (cE (.str "select a")) (kA (cE (.str "select a from")) (kA (cE (.str "select a from t where")) (kA (cE (.str "select a from t where a = b and")) (nA)))))))))
  (seqS (asgS 0 (nadE (vE 0) (lstE (kA (cE (.str "select a from t t")) (kA (cE (.str "select a as a from t")) (kA (cE (.str "Select a from t")) (nA)))))))
  (seqS (asgS 0 (nadE (vE 0) (lstE (kA (cE (.str "select a from t ")) (kA (cE (.str "select a\nfrom t")) (nA))))))
  (seqS (asgS 0 (nadE (vE 0) (lstE (kA (cE (.str "select * from t")) (kA (cE (.str "select 'a' from t")) (kA (cE (.str "select f() as a from t")) (nA)))))))
  (seqS (asgS 0 (nadE (vE 0) (lstE (kA (cE (.str "select f(a) from t")) (kA (cE (.str "from t select a")) (nA))))))
  (seqS (asgS 0 (nadE (vE 0) (lstE (kA (cE (.str " select a from t")) (kA (cE (.str "select f(a, b, c) as d from t")) (kA (cE (.str "select distinct from t")) (kA (cE (.str "select a, from t")) (nA))))))))
  (seqS (asgS 0 (nadE (vE 0) (lstE (kA (cE (.str "select a from t where a in ('a', 'a')")) (kA (cE (.str "select a.b.c from t")) (nA))))))
  (seqS (asgS 0 (nadE (vE 0) (lstE (kA (cE (.str "select a from s.t.u")) (kA (cE (.str "select ,a from t")) (nA))))))
  (seqS (asgS 0 (nadE (vE 0) (lstE (kA (cE (.str "select f(f(f(f(a)))) as b from t")) (kA (opE mulT (cE (.str "select f(")) (cE (.int 2000))) (nA))))))
  (seqS (asgS 0 (nadE (vE 0) (lstE (kA (opE addD (opE addD (cE (.str "select ")) (opE mulT (cE (.str "f(")) (cE (.int 3000)))) (cE (.str "a"))) (kA (cE (.str "select a from t,u")) (nA))))))
  (seqS (asgS 0 (nadE (vE 0) (lstE (kA (cE (.str "select in from t")) (kA (cE (.str "select a from t where a = 'b'")) (nA))))))
  (seqS (asgS 0 (nadE (vE 0) (lstE (kA (cE (.str "select a from t where a in ()")) (kA (cE (.str "select a from t p, u p")) (nA))))))
  (seqS (asgS 0 (nadE (vE 0) (lstE (kA (cE (.str "select a from t where a in ('b', 'a')")) (kA (cE (.str "select a from t where a in ('a','b')")) (nA))))))
  (seqS (asgS 0 (nadE (vE 0) (lstE (kA (cE (.str "select a from t where a")) (nA)))))
  (seqS (asgS 0 (nadE (vE 0) (lstE (kA (cE (.str "select a from t as p")) (kA (cE (.str "select a as b as c from t")) (nA))))))
  (seqS (asgS 0 (nadE (vE 0) (lstE (kA (opE addD (opE addD (cE (.str "select ")) (opE mulT (cE (.str "a")) (cE (.int 9)))) (cE (.str " from t"))) (kA (cE (.str "select a1 from t")) (nA))))))
  (seqS (asgS 0 (nadE (vE 0) (lstE (kA (cE (.str "select a from t where a in ('A')")) (kA (cE (.str "select 'as' as as from t")) (nA))))))
  (seqS (asgS 0 (nadE (vE 0) (lstE (kA (cE (.str "select t.* as a from t")) (kA (cE (.str "select a from p, q, r, s, t")) (nA))))))
  (seqS (exS (mtE appD (vE 0) (kA (opE addD (cE (.str "select a from t where ")) (joinE (cE (.str " and ")) (repE (kA (cE (.str "a = b")) (nA)) (cE (.int 9))))) (nA))))
  (seqS (exS (mtE appD (vE 0) (kA (cE (.str "select a, b, c, d, e, f, g, h, i from t")) (nA))))
  (seqS (exS (mtE appD (vE 0) (kA (opE addD (opE addD (cE (.str "select a from t where a in ('")) (joinE (cE (.str "', '")) (blE listS (kA (cE (.str "abcdefghi")) (nA))))) (cE (.str "')"))) (nA))))
  (retS (opE addX (vE 0) (lstE (kA (cE .non) (kA (cE (.int 0)) (kA (cE (.bl true)) (kA (lstE (nA)) (kA (tupE (nA)) (kA (fun _ hc => .ok (.dct [] []) hc) (kA (lstE (kA (cE (.str "select a from t")) (nA))) (kA (tupE (kA (cE (.str "select a from t")) (nA))) (nA))))))))))))))))))))))))))))))))
def c_law_wrong : List D → Hc → Res D := fnR 0 1 d_law_wrong
def d_law_fine : Sl → Hc → RS :=
  seqS (asG (tupG 2 (consG (nmG 0) (consG (nmG 1) (nilG)))) (tupE (kA (tupE (kA (cE (.str "column")) (kA (tupE (kA (cE .non) (kA (cE (.str "a")) (nA)))) (kA (cE (.str "a")) (nA))))) (kA (tupE (kA (cE .non) (kA (cE (.str "t")) (kA (cE (.str "t")) (nA))))) (nA)))))
  (seqS (asgS 2 (newE (kA (tupE (kA (cE (.str "select a from t")) (kA (tupE (kA (cE (.bl false)) (kA (tupE (kA (vE 0) (nA))) (kA (tupE (kA (vE 1) (nA))) (kA (tupE (nA)) (nA)))))) (nA)))) (nA))))
  (seqS (exS (mtE appD (vE 2) (kA (tupE (kA (cE (.str "select distinct p.b as a from s.t p")) (kA (tupE (kA (cE (.bl true)) (kA (tupE (kA (tupE (kA (cE (.str "column")) (kA (tupE (kA (cE (.str "p")) (kA (cE (.str "b")) (nA)))) (kA (cE (.str "a")) (nA))))) (nA))) (kA (tupE (kA (tupE (kA (cE (.str "s")) (kA (cE (.str "t")) (kA (cE (.str "p")) (nA))))) (nA))) (kA (tupE (nA)) (nA)))))) (nA)))) (nA))))
  (seqS (asgS 3 (tupE (kA (cE (.str "call")) (kA (cE .non) (kA (cE (.str "f")) (kA (tupE (kA (tupE (kA (cE (.str "call")) (kA (cE (.str "s")) (kA (cE (.str "f")) (kA (tupE (kA (tupE (kA (cE (.str "call")) (kA (cE .non) (kA (cE (.str "f")) (kA (tupE (kA (cE (.str "in")) (kA (tupE (kA (cE .non) (kA (cE (.str "a")) (nA)))) (nA)))) (nA)))))) (nA))) (nA)))))) (nA))) (nA)))))))
  (seqS (asgS 4 (tupE (kA (tupE (kA (cE (.str "equal")) (kA (tupE (kA (cE .non) (kA (cE (.str "a")) (nA)))) (kA (tupE (kA (cE (.str "t")) (kA (cE (.str "a")) (nA)))) (nA))))) (kA (tupE (kA (cE (.str "in")) (kA (tupE (kA (cE (.str "t")) (kA (cE (.str "a")) (nA)))) (kA (tupE (kA (cE (.str "and")) (kA (cE (.str "where")) (nA)))) (nA))))) (nA)))))
  (seqS (asgS 5 (tupE (kA (cE (.bl false)) (kA (tupE (kA (tupE (kA (cE (.str "term")) (kA (vE 3) (kA (cE (.str "b")) (nA))))) (nA))) (kA (tupE (kA (vE 1) (kA (tupE (kA (cE .non) (kA (cE (.str "u")) (kA (cE (.str "p")) (nA))))) (nA)))) (kA (vE 4) (nA)))))))
  (seqS (asgS 6 (cE (.str "select f(s.f(f('in', a))) as b from t, u p where a = t.a and t.a in ('and', 'where')")))
  (seqS (exS (mtE appD (vE 2) (kA (tupE (kA (vE 6) (kA (vE 5) (nA)))) (nA))))
  (seqS (asgS 7 (tupE (kA (tupE (kA (cE (.str "star")) (kA (cE (.str "t")) (nA)))) (kA (tupE (kA (cE (.str "term")) (kA (cE (.str "select")) (kA (cE (.str "id")) (nA))))) (kA (tupE (kA (cE (.str "column")) (kA (tupE (kA (cE (.str "t")) (kA (cE (.str "id")) (nA)))) (kA (cE (.str "id")) (nA))))) (kA (tupE (kA (cE (.str "column")) (kA (tupE (kA (cE (.str "t")) (kA (cE (.str "id")) (nA)))) (kA (cE (.str "t")) (nA))))) (nA)))))))
  (seqS (exS (mtE appD (vE 2) (kA (tupE (kA (cE (.str "select t.*, 'select' as id, t.id, t.id as t from t")) (kA (tupE (kA (cE (.bl false)) (kA (vE 7) (kA (tupE (kA (vE 1) (nA))) (kA (tupE (nA)) (nA)))))) (nA)))) (nA))))
  (seqS (asgS 8 (tupE (kA (cE (.str "call")) (kA (cE .non) (kA (cE (.str "call")) (kA (tupE (kA (tupE (kA (cE (.str "call")) (kA (cE (.str "id")) (nA)))) (nA))) (nA)))))))
  (seqS (asgS 7 (tupE (kA (tupE (kA (cE (.str "column")) (kA (tupE (kA (cE (.str "call")) (kA (cE (.str "id")) (nA)))) (kA (cE (.str "id")) (nA))))) (kA (tupE (kA (cE (.str "term")) (kA (vE 8) (kA (cE (.str "a")) (nA))))) (nA)))))
  (seqS (exS (mtE appD (vE 2) (kA (tupE (kA (cE (.str "select call.id, call(call.id) as a from call")) (kA (tupE (kA (cE (.bl false)) (kA (vE 7) (kA (tupE (kA (tupE (kA (cE .non) (kA (cE (.str "call")) (kA (cE (.str "call")) (nA))))) (nA))) (kA (tupE (nA)) (nA)))))) (nA)))) (nA))))
  (seqS (asgS 9 (blE tupleD (kA (lcE [11] (nmG 11) (itE itA (cE (.str "abcdefgh"))) (yT) (tupE (kA (cE (.str "column")) (kA (tupE (kA (cE .non) (kA (vE 11) (nA)))) (kA (vE 11) (nA)))))) (nA))))
  (seqS (asgS 10 (blE tupleD (kA (lcE [12] (nmG 12) (itE itR (cE (.int 8))) (yT) (slE (cE (.str "abcdefgh")) nO (sO (opE addD (vE 12) (cE (.int 1)))))) (nA))))
  (seqS (asgS 6 (opE addD (opE addD (cE (.str "select a, b, c, d, e, f, g, h from t where a in ('")) (joinE (cE (.str "', '")) (blE listD (kA (vE 10) (nA))))) (cE (.str "')"))))
  (seqS (exS (mtE appD (vE 2) (kA (tupE (kA (vE 6) (kA (tupE (kA (cE (.bl false)) (kA (vE 9) (kA (tupE (kA (vE 1) (nA))) (kA (tupE (kA (tupE (kA (cE (.str "in")) (kA (tupE (kA (cE .non) (kA (cE (.str "a")) (nA)))) (kA (vE 10) (nA))))) (nA))) (nA)))))) (nA)))) (nA))))
  (seqS (asgS 4 (opE repD (tupE (kA (tupE (kA (cE (.str "equal")) (kA (tupE (kA (cE .non) (kA (cE (.str "a")) (nA)))) (kA (tupE (kA (cE (.str "t")) (kA (cE (.str "b")) (nA)))) (nA))))) (kA (tupE (kA (cE (.str "in")) (kA (tupE (kA (cE .non) (kA (cE (.str "a")) (nA)))) (kA (tupE (kA (cE (.str "c")) (nA))) (nA))))) (nA)))) (cE (.int 4))))
  (seqS (asgS 6 (opE addD (cE (.str "select a from t where ")) (joinE (cE (.str " and ")) (repE (kA (cE (.str "a = t.b and a in ('c')")) (nA)) (cE (.int 4))))))
  (seqS (exS (mtE appD (vE 2) (kA (tupE (kA (vE 6) (kA (tupE (kA (cE (.bl false)) (kA (tupE (kA (vE 0) (nA))) (kA (tupE (kA (vE 1) (nA))) (kA (vE 4) (nA)))))) (nA)))) (nA))))
  (retS (frzE (vE 2))))))))))))))))))))))
def c_law_fine : List D → Hc → Res D := fnR 0 13 d_law_fine
def d_law : Sl → Hc → RS :=
  seqS (asgS 1 (callE c_law_pen (kA (vE 0) (nA))))
  (seqS (forS (nmG 2) (itE itA (callE (gcR c_law_wrong) nA)) (seqS (asgS 3 (blE reprA (kA (vE 2) (nA))))
    (ifS (orT (bT (opE neO (callE c_law_found (kA (vE 2) (nA))) (cE (.str "none")))) (bT (opE neO (blE reprA (kA (vE 2) (nA))) (vE 3)))) (retS (cE (.bl false))) (nS))))
  (seqS (forS (tupH 2 (consG (nmG 4) (consG (nmG 5) (nilG)))) (itE itA (callE (gcR c_law_fine) nA)) (ifS (orT (bT (opE neO (blE reprA (kA (callE c_law_found (kA (vE 4) (nA))) (nA))) (blE reprA (kA (vE 5) (nA))))) (bT (opE neO (callE c_write (kA (vE 5) (nA))) (vE 4)))) (retS (cE (.bl false))) (nS)))
  (seqS (asgS 4 (opE ixD (opE ixD (callE (gcR c_law_fine) nA) (callE c_law_draw (kA (vE 1) (kA (cE (.int 7)) (nA))))) (cE (.int 0))))
  (seqS (forS (nmG 6) (rg2E (kA (cE (.int 1)) (kA (blE lenD (kA (vE 4) (nA))) (nA)))) (seqS (ifS (bT (opE neO (callE c_law_found (kA (slE (vE 4) (sO (vE 6)) nO) (nA))) (cE (.str "none")))) (retS (cE (.bl false))) (nS))
    (seqS (asgS 7 (callE c_law_found (kA (slE (vE 4) nO (sO (vE 6))) (nA))))
    (ifS (orT (bT (opE eqO (vE 7) (cE (.str "other")))) (andT (bT (opE neO (vE 7) (cE (.str "none")))) (bT (opE neO (callE c_write (kA (vE 7) (nA))) (slE (vE 4) nO (sO (vE 6))))))) (retS (cE (.bl false))) (nS)))))
  (retS (cE (.bl true)))))))
def c_law : List D → Hc → Res D := fnR 1 8 d_law
/-- what the head tells -/
structure Mg (g : Gx) (K : PySem.W.Frag) (mg : Str → Option Value) : Prop where
  f_is_value : TopD K mg "is_value" (top 8)
  f_is_name : TopD K mg "is_name" (top 9)
  f_is_values : TopD K mg "is_values" (top 10)
  f_is_column_form : TopD K mg "is_column_form" (top 16)
  f_is_call_form : TopD K mg "is_call_form" (top 17)
  f_is_told : TopD K mg "is_told" (top 18)
  f_is_source : TopD K mg "is_source" (top 19)
  f_is_condition : TopD K mg "is_condition" (top 20)
  f_is_row_of : TopD K mg "is_row_of" (top 21)
  f_is_statement : TopD K mg "is_statement" (top 22)
  f_write_column : TopD K mg "write_column" (top 25)
  f_write_term : TopD K mg "write_term" (top 26)
  f_write_told : TopD K mg "write_told" (top 27)
  f_write_source : TopD K mg "write_source" (top 28)
  f_write_values : TopD K mg "write_values" (top 29)
  f_write_condition : TopD K mg "write_condition" (top 30)
  f_write : TopD K mg "write" (top 31)
  f_is_letter : TopD K mg "is_letter" (top 32)
  f_words_in : TopD K mg "words_in" (top 33)
  f_Reader____init__ : MkD K mg g 2 "Reader" "__init__" "Reader.__init__" (mthOf (top 34) 0)
  f_Reader__next_word : MthD K g 2 "next_word" "Reader.next_word" (mthOf (top 34) 1)
  f_Reader__take : MthD K g 2 "take" "Reader.take" (mthOf (top 34) 2)
  f_Reader__skip : MthD K g 2 "skip" "Reader.skip" (mthOf (top 34) 3)
  f_Reader__comes : MthD K g 2 "comes" "Reader.comes" (mthOf (top 34) 4)
  f_Reader__take_name : MthD K g 2 "take_name" "Reader.take_name" (mthOf (top 34) 5)
  f_Reader__take_value : MthD K g 2 "take_value" "Reader.take_value" (mthOf (top 34) 6)
  f_Reader__take_column : MthD K g 2 "take_column" "Reader.take_column" (mthOf (top 34) 7)
  f_Reader__is_label : MthD K g 2 "is_label" "Reader.is_label" (mthOf (top 34) 14)
  f_Reader__take_source : MthD K g 2 "take_source" "Reader.take_source" (mthOf (top 34) 13)
  f_Reader__take_part : MthD K g 2 "take_part" "Reader.take_part" (mthOf (top 34) 8)
  f_Reader__take_parts : MthD K g 2 "take_parts" "Reader.take_parts" (mthOf (top 34) 9)
  f_Reader__take_term : MthD K g 2 "take_term" "Reader.take_term" (mthOf (top 34) 11)
  f_Reader__take_told : MthD K g 2 "take_told" "Reader.take_told" (mthOf (top 34) 12)
  f_Reader__take_values : MthD K g 2 "take_values" "Reader.take_values" (mthOf (top 34) 10)
  f_Reader__take_condition : MthD K g 2 "take_condition" "Reader.take_condition" (mthOf (top 34) 15)
  f_Reader__take_statement : MthD K g 2 "take_statement" "Reader.take_statement" (mthOf (top 34) 16)
  f_Reader__finish : MthD K g 2 "finish" "Reader.finish" (mthOf (top 34) 17)
  f_read : TopD K mg "read" (top 35)
  f_law_pen : TopD K mg "_law_pen" (top 37)
  f_law_next : TopD K mg "_law_next" (top 38)
  f_law_draw : TopD K mg "_law_draw" (top 39)
  f_law_found : TopD K mg "_law_found" (top 40)
  f_law_wrong : TopD K mg "_law_wrong" (top 41)
  f_law_fine : TopD K mg "_law_fine" (top 42)
  f_law : TopD K mg "law" (top 43)
  cl_Reader : Cls K (g.fa 2)
  na_Reader_words : NoAttr K (g.fa 2) "words"
  na_Reader_place : NoAttr K (g.fa 2) "place"
  v_is_condition : mg "is_condition" = some (.ref (g.fa 3))
  v_is_told : mg "is_told" = some (.ref (g.fa 4))
  v_is_source : mg "is_source" = some (.ref (g.fa 5))
  ex : ExcAll K mg g excN anc
  n_isinstance : mg "isinstance" = none
  n_str : mg "str" = none
  n_len : mg "len" = none
  n_all : mg "all" = none
  n_tuple : mg "tuple" = none
  n_list : mg "list" = none
  n_sorted : mg "sorted" = none
  n_set : mg "set" = none
  n_bool : mg "bool" = none
  n_int : mg "int" = none
  n_ValueError : mg "ValueError" = none
  n_range : mg "range" = none
  n_repr : mg "repr" = none
  g_MOST_LETTERS : TopI mg "MOST_LETTERS" 8
  g_LETTERS : TopS mg "LETTERS" "abcdefghijklmnopqrstuvwxyz"
  g_RESERVED : TopTS K mg "RESERVED" ["select", "distinct", "as", "from", "where", "and", "in"]
  g_MOST_VALUES : TopI mg "MOST_VALUES" 8
  g_DEPTH : TopI mg "DEPTH" 3
  g_MOST_TOLD : TopI mg "MOST_TOLD" 8
  g_MOST_SOURCES : TopI mg "MOST_SOURCES" 4
  g_MOST_CONDITIONS : TopI mg "MOST_CONDITIONS" 8
  g_DOUBT : TopS mg "DOUBT" "an object is no text of a statement"
section
variable {P : Program} {w : World} {K : PySem.W.Frag} {mg : Str → Option Value} {base : Heap} {g : Gx}
theorem sc_is_value : FnScope ["thing", "letter"] ["thing"] (defScope (top 8)) := ⟨rfl, rfl, rfl, by decide +kernel, rfl, by decide +kernel, by decide +kernel⟩
theorem ok_is_value (M : Mg g K mg) (hK : K = g.K) : FnT P w K mg base g 1 "is_value" c_is_value := by
  refine FnT.of (N := ["thing", "letter"]) (ps := ["thing"]) (k := 0) M.f_is_value sc_is_value hK (fun _ _ _ _ _ _ us hl => match us, hl with | [_], _ => rfl) fun f cdv A outer sh H E c hp => ?_
  exact (s_seq (s_if (t_bool (w_or (t_not (t_val (e_isi .str c (e_var 0) M.n_isinstance M.n_str))) (w_one (t_not (t_ch o_le o_le e_int (e_blt (b_len c) M.n_len (a_cons (e_var 0) a_nil)) (e_gi M.g_MOST_LETTERS)))))) (s_one (s_ret e_bl)) s_nil)
  (s_one (s_ret (e_blt (b_all c) M.n_all (a_cons (e_lc [("letter", 1)] c sc_is_value.nd (i_any c (e_var 0)) (by kernel_rfl) (fun s1 H1 C1 l1 p1 => (g_name 1 sc_is_value.nd)) (fun s1 H1 C1 l1 p1 => ts_nil) (fun s1 H1 C1 l1 p1 => (e_cmp (o_in (c.blk s1 H1 _ (compEnvC _ l1 C1 _) p1)) (e_var 1) (e_gs M.g_LETTERS)))) a_nil)))))
theorem sc_is_name : FnScope ["thing"] ["thing"] (defScope (top 9)) := ⟨rfl, rfl, rfl, by decide +kernel, rfl, by decide +kernel, by decide +kernel⟩
theorem ok_is_name (M : Mg g K mg) (hK : K = g.K) : FnT P w K mg base g 2 "is_name" c_is_name := by
  refine FnT.of (N := ["thing"]) (ps := ["thing"]) (k := 1) M.f_is_name sc_is_name hK (fun _ _ _ _ _ _ us hl => match us, hl with | [_], _ => rfl) fun f cdv A outer sh H E c hp => ?_
  exact (s_one (s_ret (e_and (e_call ((ok_is_value M hK).mono (by decide)) c (a_cons (e_var 0) a_nil)) (e_one (e_cmp (o_nin c) (e_var 0) (e_gt c M.g_RESERVED))))))
theorem sc_is_values : FnScope ["thing", "one"] ["thing"] (defScope (top 10)) := ⟨rfl, rfl, rfl, by decide +kernel, rfl, by decide +kernel, by decide +kernel⟩
theorem ok_is_values (M : Mg g K mg) (hK : K = g.K) : FnT P w K mg base g 2 "is_values" c_is_values := by
  refine FnT.of (N := ["thing", "one"]) (ps := ["thing"]) (k := 1) M.f_is_values sc_is_values hK (fun _ _ _ _ _ _ us hl => match us, hl with | [_], _ => rfl) fun f cdv A outer sh H E c hp => ?_
  exact (s_seq (s_if (t_bool (w_or (t_not (t_val (e_isi .tup c (e_var 0) M.n_isinstance M.n_tuple))) (w_one (t_not (t_ch o_le o_le e_int (e_blt (b_len c) M.n_len (a_cons (e_var 0) a_nil)) (e_gi M.g_MOST_VALUES)))))) (s_one (s_ret e_bl)) s_nil)
  (s_one (s_ret (e_and (e_blt (b_all c) M.n_all (a_cons (e_lc [("one", 1)] c sc_is_values.nd (i_any c (e_var 0)) (by kernel_rfl) (fun s2 H2 C2 l2 p2 => (g_name 1 sc_is_values.nd)) (fun s2 H2 C2 l2 p2 => ts_nil) (fun s2 H2 C2 l2 p2 => (e_call ((ok_is_value M hK).mono (by decide)) (c.blk s2 H2 _ (compEnvC _ l2 C2 _) p2) (a_cons (e_var 1) a_nil)))) a_nil)) (e_one (e_cmp (o_eq c) (e_bty (b_list c) M.n_list (a_cons (e_var 0) a_nil)) (e_sortset c (a_cons (e_var 0) a_nil) M.n_sorted M.n_set)))))))
theorem sc_is_column_form : FnScope ["thing"] ["thing"] (defScope (top 16)) := ⟨rfl, rfl, rfl, by decide +kernel, rfl, by decide +kernel, by decide +kernel⟩
theorem ok_is_column_form (M : Mg g K mg) (hK : K = g.K) : FnT P w K mg base g 3 "is_column_form" c_is_column_form := by
  refine FnT.of (N := ["thing"]) (ps := ["thing"]) (k := 2) M.f_is_column_form sc_is_column_form hK (fun _ _ _ _ _ _ us hl => match us, hl with | [_], _ => rfl) fun f cdv A outer sh H E c hp => ?_
  exact (s_seq (s_if (t_bool (w_or (t_not (t_val (e_isi .tup c (e_var 0) M.n_isinstance M.n_tuple))) (w_one (t_cmp (o_ne c) (e_blt (b_len c) M.n_len (a_cons (e_var 0) a_nil)) e_int)))) (s_one (s_ret e_bl)) s_nil)
  (s_one (s_ret (e_and (e_or (e_cmp o_is (e_ix c (e_var 0) e_int) e_non) (e_one (e_call ((ok_is_name M hK).mono (by decide)) c (a_cons (e_ix c (e_var 0) e_int) a_nil)))) (e_one (e_call ((ok_is_name M hK).mono (by decide)) c (a_cons (e_ix c (e_var 0) e_int) a_nil)))))))
theorem sc_is_call_form : FnScope ["thing", "depth", "word", "schema", "name", "terms", "one"] ["thing", "depth"] (defScope (top 17)) := ⟨rfl, rfl, rfl, by decide +kernel, rfl, by decide +kernel, by decide +kernel⟩
theorem ok_is_call_form (M : Mg g K mg) (hK : K = g.K) : ∀ n : Nat, FnT P w K mg base g (3 + n) "is_call_form" (c_is_call_form n)
  | 0 => FnT.bad (ps := ["thing", "depth"]) M.f_is_call_form (fun _ _ _ _ _ _ us hl => match us, hl with | [_, _], _ => rfl)
  | n + 1 => by
    have ih := ok_is_call_form M hK n
    refine FnT.of (N := ["thing", "depth", "word", "schema", "name", "terms", "one"]) (ps := ["thing", "depth"]) (k := 3 + n) M.f_is_call_form sc_is_call_form hK (fun _ _ _ _ _ _ us hl => match us, hl with | [_, _], _ => rfl) fun f cdv A outer sh H E c hp => ?_
    exact (s_seq (s_if (t_bool (w_or (t_not (t_val (e_isi .tup c (e_var 0) M.n_isinstance M.n_tuple))) (w_or (t_cmp (o_ne c) (e_blt (b_len c) M.n_len (a_cons (e_var 0) a_nil)) e_int) (w_or (t_cmp (o_eq c) (e_var 1) e_int) (w_one (t_not (t_val (e_isi .str c (e_ix c (e_var 0) e_int) M.n_isinstance M.n_str)))))))) (s_one (s_ret e_bl)) s_nil)
  (s_seq (s_asg (vs := [2, 3, 4, 5]) (e_var 0) (g_tuph c (gs_cons (g_name 2 sc_is_call_form.nd) (gs_cons (g_name 3 sc_is_call_form.nd) (gs_cons (g_name 4 sc_is_call_form.nd) (gs_cons (g_name 5 sc_is_call_form.nd) gs_nil))))))
  (s_seq (s_if (t_bool (w_or (t_cmp (o_ne c) (e_var 2) e_str) (w_or (t_not (t_bool (w_or (t_cmp o_is (e_var 3) e_non) (w_one (t_val (e_call ((ok_is_name M hK).mono (by omega)) c (a_cons (e_var 3) a_nil))))))) (w_one (t_not (t_val (e_call ((ok_is_name M hK).mono (by omega)) c (a_cons (e_var 4) a_nil)))))))) (s_one (s_ret e_bl)) s_nil)
  (s_seq (s_if (t_bool (w_or (t_not (t_val (e_isi .tup c (e_var 5) M.n_isinstance M.n_tuple))) (w_one (t_not (t_ch o_le o_le e_int (e_blt (b_len c) M.n_len (a_cons (e_var 5) a_nil)) e_int))))) (s_one (s_ret e_bl)) s_nil)
  (s_one (s_ret (e_blt (b_all c) M.n_all (a_cons (e_lc [("one", 6)] c sc_is_call_form.nd (i_any c (e_var 5)) (by kernel_rfl) (fun s3 H3 C3 l3 p3 => (g_name 6 sc_is_call_form.nd)) (fun s3 H3 C3 l3 p3 => ts_nil) (fun s3 H3 C3 l3 p3 => (e_or (e_call ((ok_is_column_form M hK).mono (by omega)) (c.blk s3 H3 _ (compEnvC _ l3 C3 _) p3) (a_cons (e_var 6) a_nil)) (e_or (e_call ((ok_is_value M hK).mono (by omega)) (c.blk s3 H3 _ (compEnvC _ l3 C3 _) p3) (a_cons (e_var 6) a_nil)) (e_one (e_call ih (c.blk s3 H3 _ (compEnvC _ l3 C3 _) p3) (a_cons (e_var 6) (a_cons (e_bin o_sub (e_var 1) e_int) a_nil)))))))) a_nil))))))))
theorem sc_is_told : FnScope ["thing", "label", "column", "name", "term"] ["thing"] (defScope (top 18)) := ⟨rfl, rfl, rfl, by decide +kernel, rfl, by decide +kernel, by decide +kernel⟩
theorem ok_is_told (M : Mg g K mg) (hK : K = g.K) : FnT P w K mg base g 24 "is_told" c_is_told := by
  refine FnT.of (N := ["thing", "label", "column", "name", "term"]) (ps := ["thing"]) (k := 23) M.f_is_told sc_is_told hK (fun _ _ _ _ _ _ us hl => match us, hl with | [_], _ => rfl) fun f cdv A outer sh H E c hp => ?_
  exact (s_seq (s_match (e_var 0) (c_case sc_is_told.nd (m_seq c (m_cons (m_val c) (m_cons (m_cap 1 ⟨rfl, by first | exact Or.inl rfl | exact Or.inr rfl, by first | exact .inl rfl | exact .inr rfl⟩) m_nil))) (s_one (s_ret (e_and (e_isi .tup c (e_var 0) M.n_isinstance M.n_tuple) (e_one (e_call ((ok_is_name M hK).mono (by decide)) c (a_cons (e_var 1) a_nil)))))) (c_case sc_is_told.nd (m_seq c (m_cons (m_val c) (m_cons (m_cap 2 ⟨rfl, by first | exact Or.inl rfl | exact Or.inr rfl, by first | exact .inl rfl | exact .inr rfl⟩) (m_cons (m_cap 3 ⟨rfl, by first | exact Or.inl rfl | exact Or.inr rfl, by first | exact .inl rfl | exact .inr rfl⟩) m_nil)))) (s_one (s_ret (e_and (e_isi .tup c (e_var 0) M.n_isinstance M.n_tuple) (e_and (e_call ((ok_is_column_form M hK).mono (by decide)) c (a_cons (e_var 2) a_nil)) (e_one (e_call ((ok_is_name M hK).mono (by decide)) c (a_cons (e_var 3) a_nil))))))) (c_case sc_is_told.nd (m_seq c (m_cons (m_val c) (m_cons (m_cap 4 ⟨rfl, by first | exact Or.inl rfl | exact Or.inr rfl, by first | exact .inl rfl | exact .inr rfl⟩) (m_cons (m_cap 3 ⟨rfl, by first | exact Or.inl rfl | exact Or.inr rfl, by first | exact .inl rfl | exact .inr rfl⟩) m_nil)))) (s_one (s_ret (e_and (e_isi .tup c (e_var 0) M.n_isinstance M.n_tuple) (e_and (e_or (e_call ((ok_is_value M hK).mono (by decide)) c (a_cons (e_var 4) a_nil)) (e_one (e_call ((ok_is_call_form M hK 20).mono (by decide)) c (a_cons (e_var 4) (a_cons (e_gi M.g_DEPTH) a_nil))))) (e_one (e_call ((ok_is_name M hK).mono (by decide)) c (a_cons (e_var 3) a_nil))))))) c_nil))))
  (s_one (s_ret e_bl)))
theorem sc_is_source : FnScope ["thing"] ["thing"] (defScope (top 19)) := ⟨rfl, rfl, rfl, by decide +kernel, rfl, by decide +kernel, by decide +kernel⟩
theorem ok_is_source (M : Mg g K mg) (hK : K = g.K) : FnT P w K mg base g 3 "is_source" c_is_source := by
  refine FnT.of (N := ["thing"]) (ps := ["thing"]) (k := 2) M.f_is_source sc_is_source hK (fun _ _ _ _ _ _ us hl => match us, hl with | [_], _ => rfl) fun f cdv A outer sh H E c hp => ?_
  exact (s_seq (s_if (t_bool (w_or (t_not (t_val (e_isi .tup c (e_var 0) M.n_isinstance M.n_tuple))) (w_or (t_cmp (o_ne c) (e_blt (b_len c) M.n_len (a_cons (e_var 0) a_nil)) e_int) (w_one (t_not (t_bool (w_or (t_cmp o_is (e_ix c (e_var 0) e_int) e_non) (w_one (t_val (e_call ((ok_is_name M hK).mono (by decide)) c (a_cons (e_ix c (e_var 0) e_int) a_nil))))))))))) (s_one (s_ret e_bl)) s_nil)
  (s_one (s_ret (e_and (e_call ((ok_is_name M hK).mono (by decide)) c (a_cons (e_ix c (e_var 0) e_int) a_nil)) (e_one (e_call ((ok_is_name M hK).mono (by decide)) c (a_cons (e_ix c (e_var 0) e_int) a_nil)))))))
theorem sc_is_condition : FnScope ["thing", "column", "other", "values"] ["thing"] (defScope (top 20)) := ⟨rfl, rfl, rfl, by decide +kernel, rfl, by decide +kernel, by decide +kernel⟩
theorem ok_is_condition (M : Mg g K mg) (hK : K = g.K) : FnT P w K mg base g 4 "is_condition" c_is_condition := by
  refine FnT.of (N := ["thing", "column", "other", "values"]) (ps := ["thing"]) (k := 3) M.f_is_condition sc_is_condition hK (fun _ _ _ _ _ _ us hl => match us, hl with | [_], _ => rfl) fun f cdv A outer sh H E c hp => ?_
  exact (s_seq (s_match (e_var 0) (c_case sc_is_condition.nd (m_seq c (m_cons (m_val c) (m_cons (m_cap 1 ⟨rfl, by first | exact Or.inl rfl | exact Or.inr rfl, by first | exact .inl rfl | exact .inr rfl⟩) (m_cons (m_cap 2 ⟨rfl, by first | exact Or.inl rfl | exact Or.inr rfl, by first | exact .inl rfl | exact .inr rfl⟩) m_nil)))) (s_one (s_ret (e_and (e_isi .tup c (e_var 0) M.n_isinstance M.n_tuple) (e_and (e_call ((ok_is_column_form M hK).mono (by decide)) c (a_cons (e_var 1) a_nil)) (e_one (e_call ((ok_is_column_form M hK).mono (by decide)) c (a_cons (e_var 2) a_nil))))))) (c_case sc_is_condition.nd (m_seq c (m_cons (m_val c) (m_cons (m_cap 1 ⟨rfl, by first | exact Or.inl rfl | exact Or.inr rfl, by first | exact .inl rfl | exact .inr rfl⟩) (m_cons (m_cap 3 ⟨rfl, by first | exact Or.inl rfl | exact Or.inr rfl, by first | exact .inl rfl | exact .inr rfl⟩) m_nil)))) (s_one (s_ret (e_and (e_isi .tup c (e_var 0) M.n_isinstance M.n_tuple) (e_and (e_call ((ok_is_column_form M hK).mono (by decide)) c (a_cons (e_var 1) a_nil)) (e_one (e_call ((ok_is_values M hK).mono (by decide)) c (a_cons (e_var 3) a_nil))))))) c_nil)))
  (s_one (s_ret e_bl)))
theorem dsp_1_ok (M : Mg g K mg) (hK : K = g.K) : ∀ j cl, dsp_1 j = some cl → FnV P w K mg base g 24 (g.fa j) cl ∧ PySem.W.keepIn K (.ref (g.fa j)) = true := by
  intro j cl h
  unfold dsp_1 at h
  split at h
  · cases h; exact ((ok_is_condition M hK).mono (by decide)).v 3 M.v_is_condition
  · cases h; exact ((ok_is_told M hK).mono (by decide)).v 4 M.v_is_told
  · cases h; exact ((ok_is_source M hK).mono (by decide)).v 5 M.v_is_source
  · cases h
theorem sc_is_row_of : FnScope ["thing", "least", "most", "is_part", "one"] ["thing", "least", "most", "is_part"] (defScope (top 21)) := ⟨rfl, rfl, rfl, by decide +kernel, rfl, by decide +kernel, by decide +kernel⟩
theorem ok_is_row_of (M : Mg g K mg) (hK : K = g.K) : FnT P w K mg base g 25 "is_row_of" c_is_row_of := by
  refine FnT.of (N := ["thing", "least", "most", "is_part", "one"]) (ps := ["thing", "least", "most", "is_part"]) (k := 24) M.f_is_row_of sc_is_row_of hK (fun _ _ _ _ _ _ us hl => match us, hl with | [_, _, _, _], _ => rfl) fun f cdv A outer sh H E c hp => ?_
  exact (s_one (s_ret (e_and (e_isi .tup c (e_var 0) M.n_isinstance M.n_tuple) (e_and (e_ch o_le o_le (e_var 1) (e_blt (b_len c) M.n_len (a_cons (e_var 0) a_nil)) (e_var 2)) (e_one (e_blt (b_all c) M.n_all (a_cons (e_lc [("one", 4)] c sc_is_row_of.nd (i_any c (e_var 0)) (by kernel_rfl) (fun s4 H4 C4 l4 p4 => (g_name 4 sc_is_row_of.nd)) (fun s4 H4 C4 l4 p4 => ts_nil) (fun s4 H4 C4 l4 p4 => (e_callL 3 (c.blk s4 H4 _ (compEnvC _ l4 C4 _) p4) (fun j cl h => (dsp_1_ok M hK j cl h).imp (fun F => F.mono (by decide)) id) (a_cons (e_var 4) a_nil)))) a_nil)))))))
theorem sc_is_statement : FnScope ["thing", "source"] ["thing"] (defScope (top 22)) := ⟨rfl, rfl, rfl, by decide +kernel, rfl, by decide +kernel, by decide +kernel⟩
theorem ok_is_statement (M : Mg g K mg) (hK : K = g.K) : FnT P w K mg base g 26 "is_statement" c_is_statement := by
  refine FnT.of (N := ["thing", "source"]) (ps := ["thing"]) (k := 25) M.f_is_statement sc_is_statement hK (fun _ _ _ _ _ _ us hl => match us, hl with | [_], _ => rfl) fun f cdv A outer sh H E c hp => ?_
  exact (s_seq (s_if (t_bool (w_or (t_not (t_val (e_isi .tup c (e_var 0) M.n_isinstance M.n_tuple))) (w_or (t_cmp (o_ne c) (e_blt (b_len c) M.n_len (a_cons (e_var 0) a_nil)) e_int) (w_one (t_not (t_val (e_isi .bl c (e_ix c (e_var 0) e_int) M.n_isinstance M.n_bool))))))) (s_one (s_ret e_bl)) s_nil)
  (s_seq (s_if (t_bool (w_or (t_not (t_val (e_call ((ok_is_row_of M hK).mono (by decide)) c (a_cons (e_ix c (e_var 0) e_int) (a_cons e_int (a_cons (e_gi M.g_MOST_TOLD) (a_cons (e_gfn 4 M.v_is_told) a_nil))))))) (w_one (t_not (t_val (e_call ((ok_is_row_of M hK).mono (by decide)) c (a_cons (e_ix c (e_var 0) e_int) (a_cons e_int (a_cons (e_gi M.g_MOST_SOURCES) (a_cons (e_gfn 5 M.v_is_source) a_nil)))))))))) (s_one (s_ret e_bl)) s_nil)
  (s_seq (s_if (t_cmp o_lt (e_blt (b_lenX c) M.n_len (a_cons (e_dc [("source", 1)] c sc_is_statement.nd (i_any c (e_ix c (e_var 0) e_int)) (by kernel_rfl) (fun s5 H5 C5 l5 p5 => (g_name 1 sc_is_statement.nd)) (fun s5 H5 C5 l5 p5 => ts_nil) (fun s5 H5 C5 l5 p5 => (e_ix (c.blk s5 H5 _ (compEnvC _ l5 C5 _) p5) (e_var 1) e_int)) (fun s5 H5 C5 l5 p5 => e_bl)) a_nil)) (e_blt (b_len c) M.n_len (a_cons (e_ix c (e_var 0) e_int) a_nil))) (s_one (s_ret e_bl)) s_nil)
  (s_one (s_ret (e_call ((ok_is_row_of M hK).mono (by decide)) c (a_cons (e_ix c (e_var 0) e_int) (a_cons e_int (a_cons (e_gi M.g_MOST_CONDITIONS) (a_cons (e_gfn 3 M.v_is_condition) a_nil))))))))))
theorem sc_write_column : FnScope ["column"] ["column"] (defScope (top 25)) := ⟨rfl, rfl, rfl, by decide +kernel, rfl, by decide +kernel, by decide +kernel⟩
theorem ok_write_column (M : Mg g K mg) (hK : K = g.K) : FnT P w K mg base g 1 "write_column" c_write_column := by
  refine FnT.of (N := ["column"]) (ps := ["column"]) (k := 0) M.f_write_column sc_write_column hK (fun _ _ _ _ _ _ us hl => match us, hl with | [_], _ => rfl) fun f cdv A outer sh H E c hp => ?_
  exact (s_one (s_ret (e_ife (t_cmp o_is (e_ix c (e_var 0) e_int) e_non) (e_ix c (e_var 0) e_int) (e_fs (fs := [unE fmtD (opE ixD (vE 0) (cE (.int 0))), cE (.str "."), unE fmtD (opE ixD (vE 0) (cE (.int 1)))]) (j_cons (e_fmt (e_ix c (e_var 0) e_int)) (j_cons e_str (j_cons (e_fmt (e_ix c (e_var 0) e_int)) j_nil)))))))
theorem sc_write_term : FnScope ["term", "inner", "one"] ["term"] (defScope (top 26)) := ⟨rfl, rfl, rfl, by decide +kernel, rfl, by decide +kernel, by decide +kernel⟩
theorem ok_write_term (M : Mg g K mg) (hK : K = g.K) : ∀ n : Nat, FnT P w K mg base g (1 + n) "write_term" (c_write_term n)
  | 0 => FnT.bad (ps := ["term"]) M.f_write_term (fun _ _ _ _ _ _ us hl => match us, hl with | [_], _ => rfl)
  | n + 1 => by
    have ih := ok_write_term M hK n
    refine FnT.of (N := ["term", "inner", "one"]) (ps := ["term"]) (k := 1 + n) M.f_write_term sc_write_term hK (fun _ _ _ _ _ _ us hl => match us, hl with | [_], _ => rfl) fun f cdv A outer sh H E c hp => ?_
    exact (s_seq (s_if (t_val (e_isi .str c (e_var 0) M.n_isinstance M.n_str)) (s_one (s_ret (e_fs (fs := [cE (.str "'"), unE fmtD (vE 0), cE (.str "'")]) (j_cons e_str (j_cons (e_fmt (e_var 0)) (j_cons e_str j_nil)))))) s_nil)
  (s_seq (s_if (t_cmp (o_eq c) (e_blt (b_len c) M.n_len (a_cons (e_var 0) a_nil)) e_int) (s_one (s_ret (e_call ((ok_write_column M hK).mono (by omega)) c (a_cons (e_var 0) a_nil)))) s_nil)
  (s_seq (s_set 1 sc_write_term.nd (e_join c e_str (e_lc [("one", 2)] c sc_write_term.nd (i_any c (e_ix c (e_var 0) e_int)) (by kernel_rfl) (fun s6 H6 C6 l6 p6 => (g_name 2 sc_write_term.nd)) (fun s6 H6 C6 l6 p6 => ts_nil) (fun s6 H6 C6 l6 p6 => (e_call ih (c.blk s6 H6 _ (compEnvC _ l6 C6 _) p6) (a_cons (e_var 2) a_nil))))))
  (s_one (s_ret (e_fs (fs := [unE fmtD (callE c_write_column (kA (slE (vE 0) (sO (cE (.int 1))) (sO (cE (.int 3)))) (nA))), cE (.str "("), unE fmtD (vE 1), cE (.str ")")]) (j_cons (e_fmt (e_call ((ok_write_column M hK).mono (by omega)) c (a_cons (e_sl c (e_var 0) (p_some e_int) (p_some e_int)) a_nil))) (j_cons e_str (j_cons (e_fmt (e_var 1)) (j_cons e_str j_nil))))))))))
theorem sc_write_told : FnScope ["told", "label", "own", "name"] ["told"] (defScope (top 27)) := ⟨rfl, rfl, rfl, by decide +kernel, rfl, by decide +kernel, by decide +kernel⟩
theorem ok_write_told (M : Mg g K mg) (hK : K = g.K) : FnT P w K mg base g 22 "write_told" c_write_told := by
  refine FnT.of (N := ["told", "label", "own", "name"]) (ps := ["told"]) (k := 21) M.f_write_told sc_write_told hK (fun _ _ _ _ _ _ us hl => match us, hl with | [_], _ => rfl) fun f cdv A outer sh H E c hp => ?_
  exact (s_seq (s_match (e_var 0) (c_case sc_write_told.nd (m_seq c (m_cons (m_val c) (m_cons (m_cap 1 ⟨rfl, by first | exact Or.inl rfl | exact Or.inr rfl, by first | exact .inl rfl | exact .inr rfl⟩) m_nil))) (s_one (s_ret (e_fs (fs := [unE fmtD (vE 1), cE (.str ".*")]) (j_cons (e_fmt (e_var 1)) (j_cons e_str j_nil))))) (c_guard sc_write_told.nd (m_seq c (m_cons (m_val c) (m_cons (m_seq c (m_cons (m_cap 1 ⟨rfl, by first | exact Or.inl rfl | exact Or.inr rfl, by first | exact .inl rfl | exact .inr rfl⟩) (m_cons (m_cap 2 ⟨rfl, by first | exact Or.inl rfl | exact Or.inr rfl, by first | exact .inl rfl | exact .inr rfl⟩) m_nil))) (m_cons (m_cap 3 ⟨rfl, by first | exact Or.inl rfl | exact Or.inr rfl, by first | exact .inl rfl | exact .inr rfl⟩) m_nil)))) (t_cmp (o_eq c) (e_var 2) (e_var 3)) (s_one (s_ret (e_call ((ok_write_column M hK).mono (by decide)) c (a_cons (e_tup (a_cons (e_var 1) (a_cons (e_var 2) a_nil))) a_nil)))) c_nil)))
  (s_one (s_ret (e_fs (fs := [unE fmtD (callE (c_write_term 20) (kA (opE ixD (vE 0) (cE (.int 1))) (nA))), cE (.str " as "), unE fmtD (opE ixD (vE 0) (cE (.int 2)))]) (j_cons (e_fmt (e_call ((ok_write_term M hK 20).mono (by decide)) c (a_cons (e_ix c (e_var 0) e_int) a_nil))) (j_cons e_str (j_cons (e_fmt (e_ix c (e_var 0) e_int)) j_nil)))))))
theorem sc_write_source : FnScope ["source", "place"] ["source"] (defScope (top 28)) := ⟨rfl, rfl, rfl, by decide +kernel, rfl, by decide +kernel, by decide +kernel⟩
theorem ok_write_source (M : Mg g K mg) (hK : K = g.K) : FnT P w K mg base g 2 "write_source" c_write_source := by
  refine FnT.of (N := ["source", "place"]) (ps := ["source"]) (k := 1) M.f_write_source sc_write_source hK (fun _ _ _ _ _ _ us hl => match us, hl with | [_], _ => rfl) fun f cdv A outer sh H E c hp => ?_
  exact (s_seq (s_set 1 sc_write_source.nd (e_call ((ok_write_column M hK).mono (by decide)) c (a_cons (e_sl c (e_var 0) p_no (p_some e_int)) a_nil)))
  (s_one (s_ret (e_ife (t_cmp (o_eq c) (e_ix c (e_var 0) e_int) (e_ix c (e_var 0) e_int)) (e_var 1) (e_fs (fs := [unE fmtD (vE 1), cE (.str " "), unE fmtD (opE ixD (vE 0) (cE (.int 2)))]) (j_cons (e_fmt (e_var 1)) (j_cons e_str (j_cons (e_fmt (e_ix c (e_var 0) e_int)) j_nil))))))))
theorem sc_write_values : FnScope ["values", "inner", "value"] ["values"] (defScope (top 29)) := ⟨rfl, rfl, rfl, by decide +kernel, rfl, by decide +kernel, by decide +kernel⟩
theorem ok_write_values (M : Mg g K mg) (hK : K = g.K) : FnT P w K mg base g 1 "write_values" c_write_values := by
  refine FnT.of (N := ["values", "inner", "value"]) (ps := ["values"]) (k := 0) M.f_write_values sc_write_values hK (fun _ _ _ _ _ _ us hl => match us, hl with | [_], _ => rfl) fun f cdv A outer sh H E c hp => ?_
  exact (s_seq (s_set 1 sc_write_values.nd (e_join c e_str (e_lc [("value", 2)] c sc_write_values.nd (i_any c (e_var 0)) (by kernel_rfl) (fun s7 H7 C7 l7 p7 => (g_name 2 sc_write_values.nd)) (fun s7 H7 C7 l7 p7 => ts_nil) (fun s7 H7 C7 l7 p7 => (e_fs (fs := [cE (.str "'"), unE fmtD (vE 2), cE (.str "'")]) (j_cons e_str (j_cons (e_fmt (e_var 2)) (j_cons e_str j_nil))))))))
  (s_one (s_ret (e_fs (fs := [cE (.str "("), unE fmtD (vE 1), cE (.str ")")]) (j_cons e_str (j_cons (e_fmt (e_var 1)) (j_cons e_str j_nil)))))))
theorem sc_write_condition : FnScope ["condition"] ["condition"] (defScope (top 30)) := ⟨rfl, rfl, rfl, by decide +kernel, rfl, by decide +kernel, by decide +kernel⟩
theorem ok_write_condition (M : Mg g K mg) (hK : K = g.K) : FnT P w K mg base g 2 "write_condition" c_write_condition := by
  refine FnT.of (N := ["condition"]) (ps := ["condition"]) (k := 1) M.f_write_condition sc_write_condition hK (fun _ _ _ _ _ _ us hl => match us, hl with | [_], _ => rfl) fun f cdv A outer sh H E c hp => ?_
  exact (s_seq (s_if (t_cmp (o_eq c) (e_ix c (e_var 0) e_int) e_str) (s_one (s_ret (e_fs (fs := [unE fmtD (callE c_write_column (kA (opE ixD (vE 0) (cE (.int 1))) (nA))), cE (.str " = "), unE fmtD (callE c_write_column (kA (opE ixD (vE 0) (cE (.int 2))) (nA)))]) (j_cons (e_fmt (e_call ((ok_write_column M hK).mono (by decide)) c (a_cons (e_ix c (e_var 0) e_int) a_nil))) (j_cons e_str (j_cons (e_fmt (e_call ((ok_write_column M hK).mono (by decide)) c (a_cons (e_ix c (e_var 0) e_int) a_nil))) j_nil)))))) s_nil)
  (s_one (s_ret (e_fs (fs := [unE fmtD (callE c_write_column (kA (opE ixD (vE 0) (cE (.int 1))) (nA))), cE (.str " in "), unE fmtD (callE c_write_values (kA (opE ixD (vE 0) (cE (.int 2))) (nA)))]) (j_cons (e_fmt (e_call ((ok_write_column M hK).mono (by decide)) c (a_cons (e_ix c (e_var 0) e_int) a_nil))) (j_cons e_str (j_cons (e_fmt (e_call ((ok_write_values M hK).mono (by decide)) c (a_cons (e_ix c (e_var 0) e_int) a_nil))) j_nil)))))))
theorem sc_write : FnScope ["statement", "distinct", "told", "sources", "conditions", "found", "one"] ["statement"] (defScope (top 31)) := ⟨rfl, rfl, rfl, by decide +kernel, rfl, by decide +kernel, by decide +kernel⟩
theorem ok_write (M : Mg g K mg) (hK : K = g.K) : FnT P w K mg base g 23 "write" c_write := by
  refine FnT.of (N := ["statement", "distinct", "told", "sources", "conditions", "found", "one"]) (ps := ["statement"]) (k := 22) M.f_write sc_write hK (fun _ _ _ _ _ _ us hl => match us, hl with | [_], _ => rfl) fun f cdv A outer sh H E c hp => ?_
  exact (s_seq (s_asg (vs := [1, 2, 3, 4]) (e_var 0) (g_tuph c (gs_cons (g_name 1 sc_write.nd) (gs_cons (g_name 2 sc_write.nd) (gs_cons (g_name 3 sc_write.nd) (gs_cons (g_name 4 sc_write.nd) gs_nil))))))
  (s_seq (s_set 5 sc_write.nd (e_ife (t_val (e_var 1)) e_str e_str))
  (s_seq (s_set 5 sc_write.nd (e_bin (o_add c) (e_var 5) (e_join c e_str (e_lc [("one", 6)] c sc_write.nd (i_any c (e_var 2)) (by kernel_rfl) (fun s8 H8 C8 l8 p8 => (g_name 6 sc_write.nd)) (fun s8 H8 C8 l8 p8 => ts_nil) (fun s8 H8 C8 l8 p8 => (e_call ((ok_write_told M hK).mono (by decide)) (c.blk s8 H8 _ (compEnvC _ l8 C8 _) p8) (a_cons (e_var 6) a_nil)))))))
  (s_seq (s_set 5 sc_write.nd (e_bin (o_add c) (e_bin (o_add c) (e_var 5) e_str) (e_join c e_str (e_lc [("one", 6)] c sc_write.nd (i_any c (e_var 3)) (by kernel_rfl) (fun s9 H9 C9 l9 p9 => (g_name 6 sc_write.nd)) (fun s9 H9 C9 l9 p9 => ts_nil) (fun s9 H9 C9 l9 p9 => (e_call ((ok_write_source M hK).mono (by decide)) (c.blk s9 H9 _ (compEnvC _ l9 C9 _) p9) (a_cons (e_var 6) a_nil)))))))
  (s_one (s_ret (e_bin (o_add c) (e_bin (o_add c) (e_var 5) (e_ife (t_cmp (o_ne c) (e_var 4) (e_tup a_nil)) e_str e_str)) (e_join c e_str (e_lc [("one", 6)] c sc_write.nd (i_any c (e_var 4)) (by kernel_rfl) (fun s10 H10 C10 l10 p10 => (g_name 6 sc_write.nd)) (fun s10 H10 C10 l10 p10 => ts_nil) (fun s10 H10 C10 l10 p10 => (e_call ((ok_write_condition M hK).mono (by decide)) (c.blk s10 H10 _ (compEnvC _ l10 C10 _) p10) (a_cons (e_var 6) a_nil))))))))))))
theorem sc_is_letter : FnScope ["sign"] ["sign"] (defScope (top 32)) := ⟨rfl, rfl, rfl, by decide +kernel, rfl, by decide +kernel, by decide +kernel⟩
theorem ok_is_letter (M : Mg g K mg) (hK : K = g.K) : FnT P w K mg base g 1 "is_letter" c_is_letter := by
  refine FnT.of (N := ["sign"]) (ps := ["sign"]) (k := 0) M.f_is_letter sc_is_letter hK (fun _ _ _ _ _ _ us hl => match us, hl with | [_], _ => rfl) fun f cdv A outer sh H E c hp => ?_
  exact (s_one (s_ret (e_ch o_le o_le e_str (e_var 0) e_str)))
theorem sc_words_in : FnScope ["text", "found", "place", "end"] ["text"] (defScope (top 33)) := ⟨rfl, rfl, rfl, by decide +kernel, rfl, by decide +kernel, by decide +kernel⟩
theorem ok_words_in (M : Mg g K mg) (hK : K = g.K) : FnT P w K mg base g 2 "words_in" c_words_in := by
  refine FnT.of (N := ["text", "found", "place", "end"]) (ps := ["text"]) (k := 1) M.f_words_in sc_words_in hK (fun _ _ _ _ _ _ us hl => match us, hl with | [_], _ => rfl) fun f cdv A outer sh H E c hp => ?_
  exact (s_seq (by first | exact (s_par2 1 2 c sc_words_in.nd (a_cons (e_new a_nil) (a_cons e_int a_nil))) | exact (s_asg (vs := [1, 2]) (e_tup (a_cons (e_new a_nil) (a_cons e_int a_nil))) (g_tup c (gs_cons (g_name 1 sc_words_in.nd) (gs_cons (g_name 2 sc_words_in.nd) gs_nil)))))
  (s_seq (s_while (n := 20000) hp (t_cmp o_lt (e_var 2) (e_blt (b_len c) M.n_len (a_cons (e_var 0) a_nil))) (s_seq (s_set 3 sc_words_in.nd (e_bin (o_add c) (e_var 2) e_int))
    (s_seq (s_if (t_val (e_call ((ok_is_letter M hK).mono (by decide)) c (a_cons (e_ix c (e_var 0) (e_var 2)) a_nil))) (s_one (s_while (n := 20000) hp (t_bool (w_and (t_cmp o_lt (e_var 3) (e_blt (b_len c) M.n_len (a_cons (e_var 0) a_nil))) (w_one (t_val (e_call ((ok_is_letter M hK).mono (by decide)) c (a_cons (e_ix c (e_var 0) (e_var 3)) a_nil)))))) (s_one (s_aug 3 sc_words_in.nd ip_add e_int)))) (s_one (s_if (t_cmp (o_eq c) (e_ix c (e_var 0) (e_var 2)) e_str) (s_seq (s_while (n := 20000) hp (t_bool (w_and (t_cmp o_lt (e_var 3) (e_blt (b_len c) M.n_len (a_cons (e_var 0) a_nil))) (w_one (t_val (e_call ((ok_is_letter M hK).mono (by decide)) c (a_cons (e_ix c (e_var 0) (e_var 3)) a_nil)))))) (s_one (s_aug 3 sc_words_in.nd ip_add e_int)))
        (s_one (s_aug 3 sc_words_in.nd ip_add e_int))) s_nil)))
    (s_seq (s_expr (e_app c (e_var 1) (a_cons (e_sl c (e_var 0) (p_some (e_var 2)) (p_some (e_var 3))) a_nil)))
    (s_one (s_set 2 sc_words_in.nd (e_var 3)))))))
  (s_one (s_ret (e_frz (e_var 1))))))
theorem sc_Reader____init__ : FnScope ["self", "text"] ["self", "text"] (defScope (mthOf (top 34) 0)) := ⟨rfl, rfl, rfl, by decide +kernel, rfl, by decide +kernel, by decide +kernel⟩
theorem ok_Reader____init__ (M : Mg g K mg) (hK : K = g.K) : FnK P w K mg base g 3 2 "Reader" c_Reader____init__ := by
  refine FnK.of (N := ["self", "text"]) (ps := ["self", "text"]) (k := 2) M.f_Reader____init__ sc_Reader____init__ hK (fun _ _ _ _ _ _ us hl => match us, hl with | [_, _], _ => rfl) fun f cdv A outer sh H E c hp => ?_
  exact (s_seq (s_if (t_not (t_val (e_isi .str c (e_var 1) M.n_isinstance M.n_str))) (s_one (s_raise (M.ex.ex 1 _ rfl) c (e_gs M.g_DOUBT))) s_nil)
  (s_seq (s_fld 2 c (by rw [← hK]; exact M.cl_Reader) (by rw [← hK]; exact M.na_Reader_words) (e_var 0) (e_call ((ok_words_in M hK).mono (by decide)) c (a_cons (e_var 1) a_nil)))
  (s_one (s_fld 2 c (by rw [← hK]; exact M.cl_Reader) (by rw [← hK]; exact M.na_Reader_place) (e_var 0) e_int))))
theorem sc_Reader__next_word : FnScope ["self"] ["self"] (defScope (mthOf (top 34) 1)) := ⟨rfl, rfl, rfl, by decide +kernel, rfl, by decide +kernel, by decide +kernel⟩
theorem ok_Reader__next_word (M : Mg g K mg) (hK : K = g.K) : FnM P w K mg base g 1 2 "next_word" c_Reader__next_word := by
  refine FnM.of (N := ["self"]) (ps := ["self"]) (k := 0) M.f_Reader__next_word sc_Reader__next_word hK (fun _ _ _ _ _ _ us hl => match us, hl with | [_], _ => rfl) fun f cdv A outer sh H E c hp => ?_
  exact (s_one (s_ret (e_ife (t_cmp o_lt (e_fld 2 c (by rw [← hK]; exact M.cl_Reader) (by rw [← hK]; exact M.na_Reader_place) (e_var 0)) (e_blt (b_len c) M.n_len (a_cons (e_fld 2 c (by rw [← hK]; exact M.cl_Reader) (by rw [← hK]; exact M.na_Reader_words) (e_var 0)) a_nil))) (e_ix c (e_fld 2 c (by rw [← hK]; exact M.cl_Reader) (by rw [← hK]; exact M.na_Reader_words) (e_var 0)) (e_fld 2 c (by rw [← hK]; exact M.cl_Reader) (by rw [← hK]; exact M.na_Reader_place) (e_var 0))) e_str)))
theorem sc_Reader__take : FnScope ["self", "word"] ["self"] (defScope (mthOf (top 34) 2)) := ⟨rfl, rfl, rfl, by decide +kernel, rfl, by decide +kernel, by decide +kernel⟩
theorem ok_Reader__take (M : Mg g K mg) (hK : K = g.K) : FnM P w K mg base g 2 2 "take" c_Reader__take := by
  refine FnM.of (N := ["self", "word"]) (ps := ["self"]) (k := 1) M.f_Reader__take sc_Reader__take hK (fun _ _ _ _ _ _ us hl => match us, hl with | [_], _ => rfl) fun f cdv A outer sh H E c hp => ?_
  exact (s_seq (s_set 1 sc_Reader__take.nd (e_meth0 ((ok_Reader__next_word M hK).mono (by decide)) c (e_var 0)))
  (s_seq (s_fldaug 2 c (by rw [← hK]; exact M.cl_Reader) (by rw [← hK]; exact M.na_Reader_place) in_add (e_var 0) e_int)
  (s_one (s_ret (e_var 1)))))
theorem sc_Reader__skip : FnScope ["self", "words", "word"] ((["self"] : List Str) ++ (["words"] : List Str)) (defScope (mthOf (top 34) 3)) := ⟨rfl, rfl, rfl, by decide +kernel, rfl, by decide +kernel, by decide +kernel⟩
theorem ok_Reader__skip (M : Mg g K mg) (hK : K = g.K) : FnM P w K mg base g 3 2 "skip" c_Reader__skip := by
  refine FnM.star (N := ["self", "words", "word"]) (ps := ["self"]) (pv := "words") (k := 2) M.f_Reader__skip sc_Reader__skip hK (fun kV doc pm an cdv ct => StX.bind_star1 (B := fun vs => bindArgs (PySem.W.fnOf "skip" "Reader.skip" (defArgs (mthOf (top 34) 3)) (defBody (mthOf (top 34) 3)) (defScope (mthOf (top 34) 3)) .none kV doc pm an cdv ct) ⟨vs, []⟩) (fun a => rfl) (fun a r rs => rfl)) fun f cdv A outer sh H E c hp => ?_
  exact (s_one (s_for (vs := [2]) c hp (i_any c (e_var 1)) (g_name 2 sc_Reader__skip.nd) (s_one (s_if (t_cmp (o_ne c) (e_meth0 ((ok_Reader__take M hK).mono (by decide)) c (e_var 0)) (e_var 2)) (s_one (s_raise (M.ex.ex 1 _ rfl) c (e_gs M.g_DOUBT))) s_nil))))
theorem sc_Reader__comes : FnScope ["self", "words", "size"] ((["self"] : List Str) ++ (["words"] : List Str)) (defScope (mthOf (top 34) 4)) := ⟨rfl, rfl, rfl, by decide +kernel, rfl, by decide +kernel, by decide +kernel⟩
theorem ok_Reader__comes (M : Mg g K mg) (hK : K = g.K) : FnM P w K mg base g 1 2 "comes" c_Reader__comes := by
  refine FnM.star (N := ["self", "words", "size"]) (ps := ["self"]) (pv := "words") (k := 0) M.f_Reader__comes sc_Reader__comes hK (fun kV doc pm an cdv ct => StX.bind_star1 (B := fun vs => bindArgs (PySem.W.fnOf "comes" "Reader.comes" (defArgs (mthOf (top 34) 4)) (defBody (mthOf (top 34) 4)) (defScope (mthOf (top 34) 4)) .none kV doc pm an cdv ct) ⟨vs, []⟩) (fun a => rfl) (fun a r rs => rfl)) fun f cdv A outer sh H E c hp => ?_
  exact (s_seq (s_set 2 sc_Reader__comes.nd (e_blt (b_len c) M.n_len (a_cons (e_var 1) a_nil)))
  (s_seq (s_if (t_cmp (o_ne c) (e_sl c (e_fld 2 c (by rw [← hK]; exact M.cl_Reader) (by rw [← hK]; exact M.na_Reader_words) (e_var 0)) (p_some (e_fld 2 c (by rw [← hK]; exact M.cl_Reader) (by rw [← hK]; exact M.na_Reader_place) (e_var 0))) (p_some (e_bin (o_add c) (e_fld 2 c (by rw [← hK]; exact M.cl_Reader) (by rw [← hK]; exact M.na_Reader_place) (e_var 0)) (e_var 2)))) (e_bty (b_list c) M.n_list (a_cons (e_var 1) a_nil))) (s_one (s_ret e_bl)) s_nil)
  (s_seq (s_fldaug 2 c (by rw [← hK]; exact M.cl_Reader) (by rw [← hK]; exact M.na_Reader_place) in_add (e_var 0) (e_var 2))
  (s_one (s_ret e_bl)))))
theorem sc_Reader__take_name : FnScope ["self", "word"] ["self"] (defScope (mthOf (top 34) 5)) := ⟨rfl, rfl, rfl, by decide +kernel, rfl, by decide +kernel, by decide +kernel⟩
theorem ok_Reader__take_name (M : Mg g K mg) (hK : K = g.K) : FnM P w K mg base g 3 2 "take_name" c_Reader__take_name := by
  refine FnM.of (N := ["self", "word"]) (ps := ["self"]) (k := 2) M.f_Reader__take_name sc_Reader__take_name hK (fun _ _ _ _ _ _ us hl => match us, hl with | [_], _ => rfl) fun f cdv A outer sh H E c hp => ?_
  exact (s_seq (s_set 1 sc_Reader__take_name.nd (e_meth0 ((ok_Reader__take M hK).mono (by decide)) c (e_var 0)))
  (s_seq (s_if (t_not (t_val (e_call ((ok_is_name M hK).mono (by decide)) c (a_cons (e_var 1) a_nil)))) (s_one (s_raise (M.ex.ex 1 _ rfl) c (e_gs M.g_DOUBT))) s_nil)
  (s_one (s_ret (e_var 1)))))
theorem sc_Reader__take_value : FnScope ["self", "word"] ["self"] (defScope (mthOf (top 34) 6)) := ⟨rfl, rfl, rfl, by decide +kernel, rfl, by decide +kernel, by decide +kernel⟩
theorem ok_Reader__take_value (M : Mg g K mg) (hK : K = g.K) : FnM P w K mg base g 3 2 "take_value" c_Reader__take_value := by
  refine FnM.of (N := ["self", "word"]) (ps := ["self"]) (k := 2) M.f_Reader__take_value sc_Reader__take_value hK (fun _ _ _ _ _ _ us hl => match us, hl with | [_], _ => rfl) fun f cdv A outer sh H E c hp => ?_
  exact (s_seq (s_set 1 sc_Reader__take_value.nd (e_meth0 ((ok_Reader__take M hK).mono (by decide)) c (e_var 0)))
  (s_seq (s_if (t_bool (w_or (t_cmp o_lt (e_blt (b_len c) M.n_len (a_cons (e_var 1) a_nil)) e_int) (w_or (t_cmp (o_ne c) (e_ix c (e_var 1) e_int) e_str) (w_one (t_cmp (o_ne c) (e_ix c (e_var 1) (e_neg e_int)) e_str))))) (s_one (s_raise (M.ex.ex 1 _ rfl) c (e_gs M.g_DOUBT))) s_nil)
  (s_one (s_ret (e_sl c (e_var 1) (p_some e_int) (p_some (e_neg e_int)))))))
theorem sc_Reader__take_column : FnScope ["self", "first"] ["self"] (defScope (mthOf (top 34) 7)) := ⟨rfl, rfl, rfl, by decide +kernel, rfl, by decide +kernel, by decide +kernel⟩
theorem ok_Reader__take_column (M : Mg g K mg) (hK : K = g.K) : FnM P w K mg base g 4 2 "take_column" c_Reader__take_column := by
  refine FnM.of (N := ["self", "first"]) (ps := ["self"]) (k := 3) M.f_Reader__take_column sc_Reader__take_column hK (fun _ _ _ _ _ _ us hl => match us, hl with | [_], _ => rfl) fun f cdv A outer sh H E c hp => ?_
  exact (s_seq (s_set 1 sc_Reader__take_column.nd (e_meth0 ((ok_Reader__take_name M hK).mono (by decide)) c (e_var 0)))
  (s_one (s_ret (e_ife (t_val (e_meth ((ok_Reader__comes M hK).mono (by decide)) c (e_var 0) (a_cons e_str a_nil))) (e_tup (a_cons (e_var 1) (a_cons (e_meth0 ((ok_Reader__take_name M hK).mono (by decide)) c (e_var 0)) a_nil))) (e_tup (a_cons e_non (a_cons (e_var 1) a_nil)))))))
theorem sc_Reader__is_label : FnScope ["self"] ["self"] (defScope (mthOf (top 34) 14)) := ⟨rfl, rfl, rfl, by decide +kernel, rfl, by decide +kernel, by decide +kernel⟩
theorem ok_Reader__is_label (M : Mg g K mg) (hK : K = g.K) : FnM P w K mg base g 4 2 "is_label" c_Reader__is_label := by
  refine FnM.of (N := ["self"]) (ps := ["self"]) (k := 3) M.f_Reader__is_label sc_Reader__is_label hK (fun _ _ _ _ _ _ us hl => match us, hl with | [_], _ => rfl) fun f cdv A outer sh H E c hp => ?_
  exact (s_seq (s_if (t_cmp (o_eq c) (e_sl c (e_fld 2 c (by rw [← hK]; exact M.cl_Reader) (by rw [← hK]; exact M.na_Reader_words) (e_var 0)) (p_some (e_bin (o_add c) (e_fld 2 c (by rw [← hK]; exact M.cl_Reader) (by rw [← hK]; exact M.na_Reader_place) (e_var 0)) e_int)) (p_some (e_bin (o_add c) (e_fld 2 c (by rw [← hK]; exact M.cl_Reader) (by rw [← hK]; exact M.na_Reader_place) (e_var 0)) e_int))) (e_lst (a_cons e_str a_nil))) (s_one (s_ret e_bl)) s_nil)
  (s_seq (s_expr (e_meth ((ok_Reader__skip M hK).mono (by decide)) c (e_var 0) (a_cons e_str a_nil)))
  (s_one (s_ret e_bl))))
theorem sc_Reader__take_source : FnScope ["self", "place", "label"] ["self"] (defScope (mthOf (top 34) 13)) := ⟨rfl, rfl, rfl, by decide +kernel, rfl, by decide +kernel, by decide +kernel⟩
theorem ok_Reader__take_source (M : Mg g K mg) (hK : K = g.K) : FnM P w K mg base g 5 2 "take_source" c_Reader__take_source := by
  refine FnM.of (N := ["self", "place", "label"]) (ps := ["self"]) (k := 4) M.f_Reader__take_source sc_Reader__take_source hK (fun _ _ _ _ _ _ us hl => match us, hl with | [_], _ => rfl) fun f cdv A outer sh H E c hp => ?_
  exact (s_seq (s_set 1 sc_Reader__take_source.nd (e_meth0 ((ok_Reader__take_column M hK).mono (by decide)) c (e_var 0)))
  (s_seq (s_set 2 sc_Reader__take_source.nd (e_ife (t_bool (w_and (t_cmp (o_eq c) (e_meth0 ((ok_Reader__next_word M hK).mono (by decide)) c (e_var 0)) e_str) (w_one (t_val (e_meth0 ((ok_Reader__is_label M hK).mono (by decide)) c (e_var 0)))))) (e_meth0 ((ok_Reader__take_name M hK).mono (by decide)) c (e_var 0)) (e_ix c (e_var 1) e_int)))
  (s_one (s_ret (e_tup (a_star c (e_var 1) (a_cons (e_var 2) a_nil)))))))
theorem sc_Reader__take_part : FnScope ["self", "kind"] ["self", "kind"] (defScope (mthOf (top 34) 8)) := ⟨rfl, rfl, rfl, by decide +kernel, rfl, by decide +kernel, by decide +kernel⟩
theorem sc_Reader__take_parts : FnScope ["self", "kind", "found"] ["self", "kind"] (defScope (mthOf (top 34) 9)) := ⟨rfl, rfl, rfl, by decide +kernel, rfl, by decide +kernel, by decide +kernel⟩
theorem sc_Reader__take_term : FnScope ["self", "depth", "first", "terms"] ["self", "depth"] (defScope (mthOf (top 34) 11)) := ⟨rfl, rfl, rfl, by decide +kernel, rfl, by decide +kernel, by decide +kernel⟩
theorem sc_Reader__take_told : FnScope ["self", "label", "term", "is_plain"] ["self"] (defScope (mthOf (top 34) 12)) := ⟨rfl, rfl, rfl, by decide +kernel, rfl, by decide +kernel, by decide +kernel⟩
theorem ok_G2 (M : Mg g K mg) (hK : K = g.K) : ∀ n : Nat, FnM P w K mg base g (5 + n) 2 "take_part" (c_G2 n 0) ∧ FnM P w K mg base g (5 + n) 2 "take_parts" (c_G2 n 1) ∧ FnM P w K mg base g (5 + n) 2 "take_term" (c_G2 n 2) ∧ FnM P w K mg base g (5 + n) 2 "take_told" (c_G2 n 3)
  | 0 => ⟨FnM.bad M.f_Reader__take_part, FnM.bad M.f_Reader__take_parts, FnM.bad M.f_Reader__take_term, FnM.bad M.f_Reader__take_told⟩
  | n + 1 => by
    have ih := ok_G2 M hK n
    refine ⟨?_, ?_, ?_, ?_⟩
    · refine FnM.of (N := ["self", "kind"]) (ps := ["self", "kind"]) (k := 5 + n) M.f_Reader__take_part sc_Reader__take_part hK (fun _ _ _ _ _ _ us hl => match us, hl with | [_, _], _ => rfl) fun f cdv A outer sh H E c hp => ?_
      exact (s_seq (s_if (t_cmp (o_eq c) (e_var 1) e_str) (s_one (s_ret (e_meth0 ((ok_Reader__take_name M hK).mono (by omega)) c (e_var 0)))) s_nil)
  (s_seq (s_if (t_cmp (o_eq c) (e_var 1) e_str) (s_one (s_ret (e_meth0 ((ok_Reader__take_value M hK).mono (by omega)) c (e_var 0)))) s_nil)
  (s_seq (s_if (t_cmp (o_eq c) (e_var 1) e_str) (s_one (s_ret (e_meth0 ih.2.2.2 c (e_var 0)))) s_nil)
  (s_one (s_ret (e_ife (t_cmp (o_eq c) (e_var 1) e_str) (e_meth0 ((ok_Reader__take_source M hK).mono (by omega)) c (e_var 0)) (e_meth ih.2.2.1 c (e_var 0) (a_cons (e_var 1) a_nil))))))))
    · refine FnM.of (N := ["self", "kind", "found"]) (ps := ["self", "kind"]) (k := 5 + n) M.f_Reader__take_parts sc_Reader__take_parts hK (fun _ _ _ _ _ _ us hl => match us, hl with | [_, _], _ => rfl) fun f cdv A outer sh H E c hp => ?_
      exact (s_seq (s_set 2 sc_Reader__take_parts.nd (e_new (a_cons (e_meth ih.1 c (e_var 0) (a_cons (e_var 1) a_nil)) a_nil)))
  (s_seq (s_while (n := 20000) hp (t_val (e_meth ((ok_Reader__comes M hK).mono (by omega)) c (e_var 0) (a_cons e_str (a_cons e_str a_nil)))) (s_one (s_expr (e_app c (e_var 2) (a_cons (e_meth ih.1 c (e_var 0) (a_cons (e_var 1) a_nil)) a_nil)))))
  (s_one (s_ret (e_bty (b_tuple c) M.n_tuple (a_cons (e_var 2) a_nil))))))
    · refine FnM.of (N := ["self", "depth", "first", "terms"]) (ps := ["self", "depth"]) (k := 5 + n) M.f_Reader__take_term sc_Reader__take_term hK (fun _ _ _ _ _ _ us hl => match us, hl with | [_, _], _ => rfl) fun f cdv A outer sh H E c hp => ?_
      exact (s_seq (s_if (t_cmp (o_eq c) (e_sl c (e_meth0 ((ok_Reader__next_word M hK).mono (by omega)) c (e_var 0)) p_no (p_some e_int)) e_str) (s_one (s_ret (e_meth0 ((ok_Reader__take_value M hK).mono (by omega)) c (e_var 0)))) s_nil)
  (s_seq (s_set 2 sc_Reader__take_term.nd (e_meth0 ((ok_Reader__take_column M hK).mono (by omega)) c (e_var 0)))
  (s_seq (s_if (t_bool (w_or (t_cmp (o_eq c) (e_var 1) e_int) (w_one (t_not (t_val (e_meth ((ok_Reader__comes M hK).mono (by omega)) c (e_var 0) (a_cons e_str a_nil))))))) (s_one (s_ret (e_var 2))) s_nil)
  (s_seq (s_set 3 sc_Reader__take_term.nd (e_meth ih.2.1 c (e_var 0) (a_cons (e_bin o_sub (e_var 1) e_int) a_nil)))
  (s_seq (s_expr (e_meth ((ok_Reader__skip M hK).mono (by omega)) c (e_var 0) (a_cons e_str a_nil)))
  (s_one (s_ret (e_tup (a_cons e_str (a_star c (e_var 2) (a_cons (e_var 3) a_nil)))))))))))
    · refine FnM.of (N := ["self", "label", "term", "is_plain"]) (ps := ["self"]) (k := 5 + n) M.f_Reader__take_told sc_Reader__take_told hK (fun _ _ _ _ _ _ us hl => match us, hl with | [_], _ => rfl) fun f cdv A outer sh H E c hp => ?_
      exact (s_seq (s_if (t_cmp (o_eq c) (e_sl c (e_fld 2 c (by rw [← hK]; exact M.cl_Reader) (by rw [← hK]; exact M.na_Reader_words) (e_var 0)) (p_some (e_bin (o_add c) (e_fld 2 c (by rw [← hK]; exact M.cl_Reader) (by rw [← hK]; exact M.na_Reader_place) (e_var 0)) e_int)) (p_some (e_bin (o_add c) (e_fld 2 c (by rw [← hK]; exact M.cl_Reader) (by rw [← hK]; exact M.na_Reader_place) (e_var 0)) e_int))) (e_lst (a_cons e_str (a_cons e_str a_nil)))) (s_seq (s_set 1 sc_Reader__take_told.nd (e_meth0 ((ok_Reader__take_name M hK).mono (by omega)) c (e_var 0)))
    (s_seq (s_expr (e_meth ((ok_Reader__skip M hK).mono (by omega)) c (e_var 0) (a_cons e_str (a_cons e_str a_nil))))
    (s_one (s_ret (e_tup (a_cons e_str (a_cons (e_var 1) a_nil))))))) s_nil)
  (s_seq (s_set 2 sc_Reader__take_told.nd (e_meth ih.2.2.1 c (e_var 0) (a_cons (e_gi M.g_DEPTH) a_nil)))
  (s_seq (s_set 3 sc_Reader__take_told.nd (e_and (e_isi .tup c (e_var 2) M.n_isinstance M.n_tuple) (e_one (e_cmp (o_eq c) (e_blt (b_len c) M.n_len (a_cons (e_var 2) a_nil)) e_int))))
  (s_seq (s_if (t_bool (w_and (t_val (e_var 3)) (w_one (t_not (t_val (e_meth ((ok_Reader__comes M hK).mono (by omega)) c (e_var 0) (a_cons e_str (a_cons e_str (a_cons e_str a_nil))))))))) (s_one (s_ret (e_tup (a_cons e_str (a_cons (e_var 2) (a_cons (e_ix c (e_var 2) e_int) a_nil)))))) s_nil)
  (s_seq (s_if (t_not (t_val (e_var 3))) (s_one (s_expr (e_meth ((ok_Reader__skip M hK).mono (by omega)) c (e_var 0) (a_cons e_str (a_cons e_str (a_cons e_str a_nil)))))) s_nil)
  (s_one (s_ret (e_tup (a_cons (e_ife (t_val (e_var 3)) e_str e_str) (a_cons (e_var 2) (a_cons (e_meth0 ((ok_Reader__take_name M hK).mono (by omega)) c (e_var 0)) a_nil)))))))))))
theorem sc_Reader__take_values : FnScope ["self", "found"] ["self"] (defScope (mthOf (top 34) 10)) := ⟨rfl, rfl, rfl, by decide +kernel, rfl, by decide +kernel, by decide +kernel⟩
theorem ok_Reader__take_values (M : Mg g K mg) (hK : K = g.K) : FnM P w K mg base g 26 2 "take_values" c_Reader__take_values := by
  refine FnM.of (N := ["self", "found"]) (ps := ["self"]) (k := 25) M.f_Reader__take_values sc_Reader__take_values hK (fun _ _ _ _ _ _ us hl => match us, hl with | [_], _ => rfl) fun f cdv A outer sh H E c hp => ?_
  exact (s_seq (s_expr (e_meth ((ok_Reader__skip M hK).mono (by decide)) c (e_var 0) (a_cons e_str a_nil)))
  (s_seq (s_set 1 sc_Reader__take_values.nd (e_meth ((ok_G2 M hK 20).2.1.mono (by decide)) c (e_var 0) (a_cons e_str a_nil)))
  (s_seq (s_expr (e_meth ((ok_Reader__skip M hK).mono (by decide)) c (e_var 0) (a_cons e_str a_nil)))
  (s_one (s_ret (e_var 1))))))
theorem sc_Reader__take_condition : FnScope ["self", "column"] ["self"] (defScope (mthOf (top 34) 15)) := ⟨rfl, rfl, rfl, by decide +kernel, rfl, by decide +kernel, by decide +kernel⟩
theorem ok_Reader__take_condition (M : Mg g K mg) (hK : K = g.K) : FnM P w K mg base g 27 2 "take_condition" c_Reader__take_condition := by
  refine FnM.of (N := ["self", "column"]) (ps := ["self"]) (k := 26) M.f_Reader__take_condition sc_Reader__take_condition hK (fun _ _ _ _ _ _ us hl => match us, hl with | [_], _ => rfl) fun f cdv A outer sh H E c hp => ?_
  exact (s_seq (s_set 1 sc_Reader__take_condition.nd (e_meth0 ((ok_Reader__take_column M hK).mono (by decide)) c (e_var 0)))
  (s_seq (s_expr (e_meth ((ok_Reader__skip M hK).mono (by decide)) c (e_var 0) (a_cons e_str a_nil)))
  (s_seq (s_if (t_val (e_meth ((ok_Reader__comes M hK).mono (by decide)) c (e_var 0) (a_cons e_str (a_cons e_str a_nil)))) (s_one (s_ret (e_tup (a_cons e_str (a_cons (e_var 1) (a_cons (e_meth0 ((ok_Reader__take_column M hK).mono (by decide)) c (e_var 0)) a_nil)))))) s_nil)
  (s_seq (s_expr (e_meth ((ok_Reader__skip M hK).mono (by decide)) c (e_var 0) (a_cons e_str (a_cons e_str a_nil))))
  (s_one (s_ret (e_tup (a_cons e_str (a_cons (e_var 1) (a_cons (e_meth0 ((ok_Reader__take_values M hK).mono (by decide)) c (e_var 0)) a_nil))))))))))
theorem sc_Reader__take_statement : FnScope ["self", "distinct", "told", "sources", "conditions"] ["self"] (defScope (mthOf (top 34) 16)) := ⟨rfl, rfl, rfl, by decide +kernel, rfl, by decide +kernel, by decide +kernel⟩
theorem ok_Reader__take_statement (M : Mg g K mg) (hK : K = g.K) : FnM P w K mg base g 28 2 "take_statement" c_Reader__take_statement := by
  refine FnM.of (N := ["self", "distinct", "told", "sources", "conditions"]) (ps := ["self"]) (k := 27) M.f_Reader__take_statement sc_Reader__take_statement hK (fun _ _ _ _ _ _ us hl => match us, hl with | [_], _ => rfl) fun f cdv A outer sh H E c hp => ?_
  exact (s_seq (s_expr (e_meth ((ok_Reader__skip M hK).mono (by decide)) c (e_var 0) (a_cons e_str (a_cons e_str a_nil))))
  (s_seq (s_set 1 sc_Reader__take_statement.nd (e_meth ((ok_Reader__comes M hK).mono (by decide)) c (e_var 0) (a_cons e_str (a_cons e_str a_nil))))
  (s_seq (s_set 2 sc_Reader__take_statement.nd (e_meth ((ok_G2 M hK 20).2.1.mono (by decide)) c (e_var 0) (a_cons e_str a_nil)))
  (s_seq (s_expr (e_meth ((ok_Reader__skip M hK).mono (by decide)) c (e_var 0) (a_cons e_str (a_cons e_str (a_cons e_str a_nil)))))
  (s_seq (by first | exact (s_par2 3 4 c sc_Reader__take_statement.nd (a_cons (e_meth ((ok_G2 M hK 20).2.1.mono (by decide)) c (e_var 0) (a_cons e_str a_nil)) (a_cons (e_new a_nil) a_nil))) | exact (s_asg (vs := [3, 4]) (e_tup (a_cons (e_meth ((ok_G2 M hK 20).2.1.mono (by decide)) c (e_var 0) (a_cons e_str a_nil)) (a_cons (e_new a_nil) a_nil))) (g_tup c (gs_cons (g_name 3 sc_Reader__take_statement.nd) (gs_cons (g_name 4 sc_Reader__take_statement.nd) gs_nil)))))
  (s_seq (s_if (t_val (e_meth ((ok_Reader__comes M hK).mono (by decide)) c (e_var 0) (a_cons e_str (a_cons e_str (a_cons e_str a_nil))))) (s_seq (s_expr (e_app c (e_var 4) (a_cons (e_meth0 ((ok_Reader__take_condition M hK).mono (by decide)) c (e_var 0)) a_nil)))
    (s_one (s_while (n := 20000) hp (t_val (e_meth ((ok_Reader__comes M hK).mono (by decide)) c (e_var 0) (a_cons e_str (a_cons e_str (a_cons e_str a_nil))))) (s_one (s_expr (e_app c (e_var 4) (a_cons (e_meth0 ((ok_Reader__take_condition M hK).mono (by decide)) c (e_var 0)) a_nil))))))) s_nil)
  (s_one (s_ret (e_tup (a_cons (e_var 1) (a_cons (e_var 2) (a_cons (e_var 3) (a_cons (e_bty (b_tuple c) M.n_tuple (a_cons (e_var 4) a_nil)) a_nil)))))))))))))
theorem sc_Reader__finish : FnScope ["self"] ["self"] (defScope (mthOf (top 34) 17)) := ⟨rfl, rfl, rfl, by decide +kernel, rfl, by decide +kernel, by decide +kernel⟩
theorem ok_Reader__finish (M : Mg g K mg) (hK : K = g.K) : FnM P w K mg base g 1 2 "finish" c_Reader__finish := by
  refine FnM.of (N := ["self"]) (ps := ["self"]) (k := 0) M.f_Reader__finish sc_Reader__finish hK (fun _ _ _ _ _ _ us hl => match us, hl with | [_], _ => rfl) fun f cdv A outer sh H E c hp => ?_
  exact (s_one (s_if (t_cmp (o_ne c) (e_fld 2 c (by rw [← hK]; exact M.cl_Reader) (by rw [← hK]; exact M.na_Reader_place) (e_var 0)) (e_blt (b_len c) M.n_len (a_cons (e_fld 2 c (by rw [← hK]; exact M.cl_Reader) (by rw [← hK]; exact M.na_Reader_words) (e_var 0)) a_nil))) (s_one (s_raise (M.ex.ex 1 _ rfl) c (e_gs M.g_DOUBT))) s_nil))
theorem sc_read : FnScope ["text", "reader", "found"] ["text"] (defScope (top 35)) := ⟨rfl, rfl, rfl, by decide +kernel, rfl, by decide +kernel, by decide +kernel⟩
theorem ok_read (M : Mg g K mg) (hK : K = g.K) : FnT P w K mg base g 29 "read" c_read := by
  refine FnT.of (N := ["text", "reader", "found"]) (ps := ["text"]) (k := 28) M.f_read sc_read hK (fun _ _ _ _ _ _ us hl => match us, hl with | [_], _ => rfl) fun f cdv A outer sh H E c hp => ?_
  exact (s_seq (s_set 1 sc_read.nd (e_make (k := 27) ((ok_Reader____init__ M hK).mono (by decide)) c (a_cons (e_var 0) a_nil)))
  (s_seq (s_set 2 sc_read.nd (e_meth0 ((ok_Reader__take_statement M hK).mono (by decide)) c (e_var 1)))
  (s_seq (s_expr (e_meth0 ((ok_Reader__finish M hK).mono (by decide)) c (e_var 1)))
  (s_seq (s_if (t_bool (w_or (t_not (t_val (e_call ((ok_is_statement M hK).mono (by decide)) c (a_cons (e_var 2) a_nil)))) (w_one (t_cmp (o_ne c) (e_call ((ok_write M hK).mono (by decide)) c (a_cons (e_var 2) a_nil)) (e_var 0))))) (s_one (s_raise (M.ex.ex 1 _ rfl) c (e_gs M.g_DOUBT))) s_nil)
  (s_one (s_ret (e_var 2)))))))
theorem sc_law_pen : FnScope ["_law_script"] ["_law_script"] (defScope (top 37)) := ⟨rfl, rfl, rfl, by decide +kernel, rfl, by decide +kernel, by decide +kernel⟩
theorem ok_law_pen (M : Mg g K mg) (hK : K = g.K) : FnT P w K mg base g 1 "_law_pen" c_law_pen := by
  refine FnT.of (N := ["_law_script"]) (ps := ["_law_script"]) (k := 0) M.f_law_pen sc_law_pen hK (fun _ _ _ _ _ _ us hl => match us, hl with | [_], _ => rfl) fun f cdv A outer sh H E c hp => ?_
  exact (s_one (s_ret (e_new (a_cons (e_bty (b_list c) M.n_list (a_cons (e_sl c (e_var 0) p_no (p_some e_int)) a_nil)) (a_cons e_int (a_cons e_int a_nil))))))
theorem sc_law_next : FnScope ["_law_pen_here", "_law_index", "_law_cell_here", "_law_some", "_law_more", "_law_top"] ["_law_pen_here"] (defScope (top 38)) := ⟨rfl, rfl, rfl, by decide +kernel, rfl, by decide +kernel, by decide +kernel⟩
theorem ok_law_next (M : Mg g K mg) (hK : K = g.K) : FnT P w K mg base g 1 "_law_next" c_law_next := by
  refine FnT.of (N := ["_law_pen_here", "_law_index", "_law_cell_here", "_law_some", "_law_more", "_law_top"]) (ps := ["_law_pen_here"]) (k := 0) M.f_law_next sc_law_next hK (fun _ _ _ _ _ _ us hl => match us, hl with | [_], _ => rfl) fun f cdv A outer sh H E c hp => ?_
  exact (s_seq (s_set 1 sc_law_next.nd (e_ix c (e_var 0) e_int))
  (s_seq (s_sub (e_bin (o_add c) (e_var 1) e_int) (e_var 0) e_int)
  (s_seq (s_set 2 sc_law_next.nd (e_bin (o_add c) (e_bin o_mul (e_var 1) e_int) e_int))
  (s_seq (s_if (t_cmp (o_ne c) (e_ix c (e_var 0) e_int) (e_lst a_nil)) (s_one (s_set 2 sc_law_next.nd (e_ix c (e_ix c (e_var 0) e_int) (e_bin o_mod (e_bty b_int M.n_int (a_cons (e_var 1) a_nil)) (e_blt (b_len c) M.n_len (a_cons (e_ix c (e_var 0) e_int) a_nil)))))) s_nil)
  (s_seq (s_if (t_bool (w_and (t_cmp o_lt (e_var 1) (e_blt (b_len c) M.n_len (a_cons (e_ix c (e_var 0) e_int) a_nil))) (w_one (t_cmp o_ge (e_var 2) (e_bin o_pow e_int e_int))))) (s_one (s_ret (e_var 2))) s_nil)
  (s_seq (s_set 3 sc_law_next.nd (e_bin o_mod (e_bty b_int M.n_int (a_cons (e_bin (o_add c) (e_bin (o_add c) (e_bin o_mod (e_bty b_int M.n_int (a_cons (e_var 2) a_nil)) e_int) (e_bin o_mul (e_var 1) e_int)) e_int) a_nil)) e_int))
  (s_seq (s_set 4 sc_law_next.nd (e_bin o_mod (e_bty b_int M.n_int (a_cons (e_bin (o_add c) (e_bin (o_add c) (e_bin o_mul (e_var 3) (e_var 3)) (e_bin o_mul (e_var 1) e_int)) e_int) a_nil)) e_int))
  (s_seq (s_set 5 sc_law_next.nd (e_bin o_mod (e_bty b_int M.n_int (a_cons (e_bin (o_add c) (e_bin (o_add c) (e_bin o_mul (e_var 4) (e_var 4)) (e_var 3)) (e_bin o_mul (e_bin o_mul (e_var 1) (e_var 1)) e_int)) a_nil)) e_int))
  (s_one (s_ret (e_bin (o_add c) (e_bin o_mul (e_bin (o_add c) (e_bin o_mul (e_var 5) e_int) (e_var 4)) e_int) (e_var 3))))))))))))
theorem sc_law_draw : FnScope ["_law_pen_here", "_law_under", "_law_digit"] ["_law_pen_here", "_law_under"] (defScope (top 39)) := ⟨rfl, rfl, rfl, by decide +kernel, rfl, by decide +kernel, by decide +kernel⟩
theorem ok_law_draw (M : Mg g K mg) (hK : K = g.K) : FnT P w K mg base g 2 "_law_draw" c_law_draw := by
  refine FnT.of (N := ["_law_pen_here", "_law_under", "_law_digit"]) (ps := ["_law_pen_here", "_law_under"]) (k := 1) M.f_law_draw sc_law_draw hK (fun _ _ _ _ _ _ us hl => match us, hl with | [_, _], _ => rfl) fun f cdv A outer sh H E c hp => ?_
  exact (s_seq (s_if (t_cmp o_lt (e_ix c (e_var 0) e_int) (e_var 1)) (s_one (s_sub (e_call ((ok_law_next M hK).mono (by decide)) c (a_cons (e_var 0) a_nil)) (e_var 0) e_int)) s_nil)
  (s_seq (s_set 2 sc_law_draw.nd (e_bin o_mod (e_bty b_int M.n_int (a_cons (e_ix c (e_var 0) e_int) a_nil)) (e_var 1)))
  (s_seq (s_sub (e_bin o_fdiv (e_ix c (e_var 0) e_int) (e_var 1)) (e_var 0) e_int)
  (s_one (s_ret (e_var 2))))))
theorem sc_law_found : FnScope ["_law_thing_here", "_law_caught", "_law_found_here", "e"] ["_law_thing_here"] (defScope (top 40)) := ⟨rfl, rfl, rfl, by decide +kernel, rfl, by decide +kernel, by decide +kernel⟩
theorem ok_law_found (M : Mg g K mg) (hK : K = g.K) : FnT P w K mg base g 30 "_law_found" c_law_found := by
  refine FnT.of (N := ["_law_thing_here", "_law_caught", "_law_found_here", "e"]) (ps := ["_law_thing_here"]) (k := 29) M.f_law_found sc_law_found hK (fun _ _ _ _ _ _ us hl => match us, hl with | [_], _ => rfl) fun f cdv A outer sh H E c hp => ?_
  exact (s_seq (by first | exact (s_par2 1 2 c sc_law_found.nd (a_cons e_non (a_cons e_non a_nil))) | exact (s_asg (vs := [1, 2]) (e_tup (a_cons e_non (a_cons e_non a_nil))) (g_tup c (gs_cons (g_name 1 sc_law_found.nd) (gs_cons (g_name 2 sc_law_found.nd) gs_nil)))))
  (s_seq (s_try 3 1 c rfl rfl rfl sc_law_found.nd (M.ex.ex 0 _ rfl).gC (ck_of M.ex (t := 0) rfl) (fun W' pn xe c hp => (s_one (s_set 2 sc_law_found.nd (e_call ((ok_read M hK).mono (by decide)).gc c (a_cons (e_var 0) a_nil))))))
  (s_seq (s_if (t_cmp o_is (e_var 1) e_non) (s_one (s_ret (e_var 2))) s_nil)
  (s_one (s_ret (e_ife (t_bool (w_and (t_val (e_isO 1 M.ex c (e_var 1) M.n_isinstance)) (w_one (t_val (e_isV M.ex c (e_var 1) M.n_isinstance M.n_ValueError))))) e_str e_str))))))
theorem sc_law_wrong : FnScope ["_law_some"] [] (defScope (top 41)) := ⟨rfl, rfl, rfl, by decide +kernel, rfl, by decide +kernel, by decide +kernel⟩
theorem ok_law_wrong (M : Mg g K mg) (hK : K = g.K) : FnT P w K mg base g 1 "_law_wrong" c_law_wrong := by
  refine FnT.of (N := ["_law_some"]) (ps := []) (k := 0) M.f_law_wrong sc_law_wrong hK (fun _ _ _ _ _ _ us hl => match us, hl with | [], _ => rfl) fun f cdv A outer sh H E c hp => ?_
  exact (s_seq (s_set 0 sc_law_wrong.nd (e_new (a_cons e_str (a_cons e_str (a_cons e_str (a_cons e_str (a_cons e_str (a_cons e_str a_nil))))))))
  (s_seq (s_set 0 sc_law_wrong.nd (e_addN (e_var 0) (e_lst (a_cons e_str (a_cons e_str (a_cons e_str a_nil))))))
  (s_seq (s_set 0 sc_law_wrong.nd (e_addN (e_var 0) (e_lst (a_cons e_str (a_cons e_str a_nil)))))
  (s_seq (s_set 0 sc_law_wrong.nd (e_addN (e_var 0) (e_lst (a_cons e_str (a_cons e_str (a_cons e_str a_nil))))))
  (s_seq (s_set 0 sc_law_wrong.nd (e_addN (e_var 0) (e_lst (a_cons e_str (a_cons e_str a_nil)))))
  (s_seq (s_set 0 sc_law_wrong.nd (e_addN (e_var 0) (e_lst (a_cons e_str (a_cons e_str (a_cons e_str (a_cons e_str a_nil)))))))
  (s_seq (s_set 0 sc_law_wrong.nd (e_addN (e_var 0) (e_lst (a_cons e_str (a_cons e_str a_nil)))))
  (s_seq (s_set 0 sc_law_wrong.nd (e_addN (e_var 0) (e_lst (a_cons e_str (a_cons e_str a_nil)))))
  (s_seq (s_set 0 sc_law_wrong.nd (e_addN (e_var 0) (e_lst (a_cons e_str (a_cons (e_bin o_mulT e_str e_int) a_nil)))))
  (s_seq (s_set 0 sc_law_wrong.nd (e_addN (e_var 0) (e_lst (a_cons (e_bin (o_add c) (e_bin (o_add c) e_str (e_bin o_mulT e_str e_int)) e_str) (a_cons e_str a_nil)))))
  (s_seq (s_set 0 sc_law_wrong.nd (e_addN (e_var 0) (e_lst (a_cons e_str (a_cons e_str a_nil)))))
  (s_seq (s_set 0 sc_law_wrong.nd (e_addN (e_var 0) (e_lst (a_cons e_str (a_cons e_str a_nil)))))
  (s_seq (s_set 0 sc_law_wrong.nd (e_addN (e_var 0) (e_lst (a_cons e_str (a_cons e_str a_nil)))))
  (s_seq (s_set 0 sc_law_wrong.nd (e_addN (e_var 0) (e_lst (a_cons e_str a_nil))))
  (s_seq (s_set 0 sc_law_wrong.nd (e_addN (e_var 0) (e_lst (a_cons e_str (a_cons e_str a_nil)))))
  (s_seq (s_set 0 sc_law_wrong.nd (e_addN (e_var 0) (e_lst (a_cons (e_bin (o_add c) (e_bin (o_add c) e_str (e_bin o_mulT e_str e_int)) e_str) (a_cons e_str a_nil)))))
  (s_seq (s_set 0 sc_law_wrong.nd (e_addN (e_var 0) (e_lst (a_cons e_str (a_cons e_str a_nil)))))
  (s_seq (s_set 0 sc_law_wrong.nd (e_addN (e_var 0) (e_lst (a_cons e_str (a_cons e_str a_nil)))))
  (s_seq (s_expr (e_app c (e_var 0) (a_cons (e_bin (o_add c) e_str (e_join c e_str (e_rep (a_cons e_str a_nil) e_int))) a_nil)))
  (s_seq (s_expr (e_app c (e_var 0) (a_cons e_str a_nil)))
  (s_seq (s_expr (e_app c (e_var 0) (a_cons (e_bin (o_add c) (e_bin (o_add c) e_str (e_join c e_str (e_bty (b_listS c) M.n_list (a_cons e_str a_nil)))) e_str) a_nil)))
  (s_one (s_ret (e_bin o_addX (e_var 0) (e_lst (a_cons e_non (a_cons e_int (a_cons e_bl (a_cons (e_lst a_nil) (a_cons (e_tup a_nil) (a_cons e_dct0 (a_cons (e_lst (a_cons e_str a_nil)) (a_cons (e_tup (a_cons e_str a_nil)) a_nil)))))))))))))))))))))))))))))))))
theorem sc_law_fine : FnScope ["_law_plain", "_law_source_here", "_law_some", "_law_deep", "_law_asks_here", "_law_whole", "_law_text_here", "_law_told", "_law_called", "_law_many", "_law_worths", "_law_nym", "_law_k"] [] (defScope (top 42)) := ⟨rfl, rfl, rfl, by decide +kernel, rfl, by decide +kernel, by decide +kernel⟩
theorem ok_law_fine (M : Mg g K mg) (hK : K = g.K) : FnT P w K mg base g 1 "_law_fine" c_law_fine := by
  refine FnT.of (N := ["_law_plain", "_law_source_here", "_law_some", "_law_deep", "_law_asks_here", "_law_whole", "_law_text_here", "_law_told", "_law_called", "_law_many", "_law_worths", "_law_nym", "_law_k"]) (ps := []) (k := 0) M.f_law_fine sc_law_fine hK (fun _ _ _ _ _ _ us hl => match us, hl with | [], _ => rfl) fun f cdv A outer sh H E c hp => ?_
  exact (s_seq (by first | exact (s_par2 0 1 c sc_law_fine.nd (a_cons (e_tup (a_cons e_str (a_cons (e_tup (a_cons e_non (a_cons e_str a_nil))) (a_cons e_str a_nil)))) (a_cons (e_tup (a_cons e_non (a_cons e_str (a_cons e_str a_nil)))) a_nil))) | exact (s_asg (vs := [0, 1]) (e_tup (a_cons (e_tup (a_cons e_str (a_cons (e_tup (a_cons e_non (a_cons e_str a_nil))) (a_cons e_str a_nil)))) (a_cons (e_tup (a_cons e_non (a_cons e_str (a_cons e_str a_nil)))) a_nil))) (g_tup c (gs_cons (g_name 0 sc_law_fine.nd) (gs_cons (g_name 1 sc_law_fine.nd) gs_nil)))))
  (s_seq (s_set 2 sc_law_fine.nd (e_new (a_cons (e_tup (a_cons e_str (a_cons (e_tup (a_cons e_bl (a_cons (e_tup (a_cons (e_var 0) a_nil)) (a_cons (e_tup (a_cons (e_var 1) a_nil)) (a_cons (e_tup a_nil) a_nil))))) a_nil))) a_nil)))
  (s_seq (s_expr (e_app c (e_var 2) (a_cons (e_tup (a_cons e_str (a_cons (e_tup (a_cons e_bl (a_cons (e_tup (a_cons (e_tup (a_cons e_str (a_cons (e_tup (a_cons e_str (a_cons e_str a_nil))) (a_cons e_str a_nil)))) a_nil)) (a_cons (e_tup (a_cons (e_tup (a_cons e_str (a_cons e_str (a_cons e_str a_nil)))) a_nil)) (a_cons (e_tup a_nil) a_nil))))) a_nil))) a_nil)))
  (s_seq (s_set 3 sc_law_fine.nd (e_tup (a_cons e_str (a_cons e_non (a_cons e_str (a_cons (e_tup (a_cons (e_tup (a_cons e_str (a_cons e_str (a_cons e_str (a_cons (e_tup (a_cons (e_tup (a_cons e_str (a_cons e_non (a_cons e_str (a_cons (e_tup (a_cons e_str (a_cons (e_tup (a_cons e_non (a_cons e_str a_nil))) a_nil))) a_nil))))) a_nil)) a_nil))))) a_nil)) a_nil))))))
  (s_seq (s_set 4 sc_law_fine.nd (e_tup (a_cons (e_tup (a_cons e_str (a_cons (e_tup (a_cons e_non (a_cons e_str a_nil))) (a_cons (e_tup (a_cons e_str (a_cons e_str a_nil))) a_nil)))) (a_cons (e_tup (a_cons e_str (a_cons (e_tup (a_cons e_str (a_cons e_str a_nil))) (a_cons (e_tup (a_cons e_str (a_cons e_str a_nil))) a_nil)))) a_nil))))
  (s_seq (s_set 5 sc_law_fine.nd (e_tup (a_cons e_bl (a_cons (e_tup (a_cons (e_tup (a_cons e_str (a_cons (e_var 3) (a_cons e_str a_nil)))) a_nil)) (a_cons (e_tup (a_cons (e_var 1) (a_cons (e_tup (a_cons e_non (a_cons e_str (a_cons e_str a_nil)))) a_nil))) (a_cons (e_var 4) a_nil))))))
  (s_seq (s_set 6 sc_law_fine.nd e_str)
  (s_seq (s_expr (e_app c (e_var 2) (a_cons (e_tup (a_cons (e_var 6) (a_cons (e_var 5) a_nil))) a_nil)))
  (s_seq (s_set 7 sc_law_fine.nd (e_tup (a_cons (e_tup (a_cons e_str (a_cons e_str a_nil))) (a_cons (e_tup (a_cons e_str (a_cons e_str (a_cons e_str a_nil)))) (a_cons (e_tup (a_cons e_str (a_cons (e_tup (a_cons e_str (a_cons e_str a_nil))) (a_cons e_str a_nil)))) (a_cons (e_tup (a_cons e_str (a_cons (e_tup (a_cons e_str (a_cons e_str a_nil))) (a_cons e_str a_nil)))) a_nil))))))
  (s_seq (s_expr (e_app c (e_var 2) (a_cons (e_tup (a_cons e_str (a_cons (e_tup (a_cons e_bl (a_cons (e_var 7) (a_cons (e_tup (a_cons (e_var 1) a_nil)) (a_cons (e_tup a_nil) a_nil))))) a_nil))) a_nil)))
  (s_seq (s_set 8 sc_law_fine.nd (e_tup (a_cons e_str (a_cons e_non (a_cons e_str (a_cons (e_tup (a_cons (e_tup (a_cons e_str (a_cons e_str a_nil))) a_nil)) a_nil))))))
  (s_seq (s_set 7 sc_law_fine.nd (e_tup (a_cons (e_tup (a_cons e_str (a_cons (e_tup (a_cons e_str (a_cons e_str a_nil))) (a_cons e_str a_nil)))) (a_cons (e_tup (a_cons e_str (a_cons (e_var 8) (a_cons e_str a_nil)))) a_nil))))
  (s_seq (s_expr (e_app c (e_var 2) (a_cons (e_tup (a_cons e_str (a_cons (e_tup (a_cons e_bl (a_cons (e_var 7) (a_cons (e_tup (a_cons (e_tup (a_cons e_non (a_cons e_str (a_cons e_str a_nil)))) a_nil)) (a_cons (e_tup a_nil) a_nil))))) a_nil))) a_nil)))
  (s_seq (s_set 9 sc_law_fine.nd (e_bty (b_tuple c) M.n_tuple (a_cons (e_lc [("_law_nym", 11)] c sc_law_fine.nd (i_any c e_str) (by kernel_rfl) (fun s11 H11 C11 l11 p11 => (g_name 11 sc_law_fine.nd)) (fun s11 H11 C11 l11 p11 => ts_nil) (fun s11 H11 C11 l11 p11 => (e_tup (a_cons e_str (a_cons (e_tup (a_cons e_non (a_cons (e_var 11) a_nil))) (a_cons (e_var 11) a_nil)))))) a_nil)))
  (s_seq (s_set 10 sc_law_fine.nd (e_bty (b_tuple c) M.n_tuple (a_cons (e_lc [("_law_k", 12)] c sc_law_fine.nd (i_range e_int M.n_range) (by kernel_rfl) (fun s12 H12 C12 l12 p12 => (g_name 12 sc_law_fine.nd)) (fun s12 H12 C12 l12 p12 => ts_nil) (fun s12 H12 C12 l12 p12 => (e_sl (c.blk s12 H12 _ (compEnvC _ l12 C12 _) p12) e_str p_no (p_some (e_bin (o_add (c.blk s12 H12 _ (compEnvC _ l12 C12 _) p12)) (e_var 12) e_int))))) a_nil)))
  (s_seq (s_set 6 sc_law_fine.nd (e_bin (o_add c) (e_bin (o_add c) e_str (e_join c e_str (e_bty (b_list c) M.n_list (a_cons (e_var 10) a_nil)))) e_str))
  (s_seq (s_expr (e_app c (e_var 2) (a_cons (e_tup (a_cons (e_var 6) (a_cons (e_tup (a_cons e_bl (a_cons (e_var 9) (a_cons (e_tup (a_cons (e_var 1) a_nil)) (a_cons (e_tup (a_cons (e_tup (a_cons e_str (a_cons (e_tup (a_cons e_non (a_cons e_str a_nil))) (a_cons (e_var 10) a_nil)))) a_nil)) a_nil))))) a_nil))) a_nil)))
  (s_seq (s_set 4 sc_law_fine.nd (e_bin (o_rep c) (e_tup (a_cons (e_tup (a_cons e_str (a_cons (e_tup (a_cons e_non (a_cons e_str a_nil))) (a_cons (e_tup (a_cons e_str (a_cons e_str a_nil))) a_nil)))) (a_cons (e_tup (a_cons e_str (a_cons (e_tup (a_cons e_non (a_cons e_str a_nil))) (a_cons (e_tup (a_cons e_str a_nil)) a_nil)))) a_nil))) e_int))
  (s_seq (s_set 6 sc_law_fine.nd (e_bin (o_add c) e_str (e_join c e_str (e_rep (a_cons e_str a_nil) e_int))))
  (s_seq (s_expr (e_app c (e_var 2) (a_cons (e_tup (a_cons (e_var 6) (a_cons (e_tup (a_cons e_bl (a_cons (e_tup (a_cons (e_var 0) a_nil)) (a_cons (e_tup (a_cons (e_var 1) a_nil)) (a_cons (e_var 4) a_nil))))) a_nil))) a_nil)))
  (s_one (s_ret (e_frz (e_var 2))))))))))))))))))))))))
theorem sc_law : FnScope ["_law_script", "_law_pen_here", "_law_one", "_law_before", "_law_text_here", "_law_due", "_law_size", "_law_found_here"] ["_law_script"] (defScope (top 43)) := ⟨rfl, rfl, rfl, by decide +kernel, rfl, by decide +kernel, by decide +kernel⟩
theorem ok_law {f : Addr} {fd : FuncData} (F : FunD K "law" "law" (defArgs (top 43)) (defBody (top 43)) (defScope (top 43)) [] [] f fd) (M : Mg g K mg) (hK : K = g.K) : FnI P w K mg base g 31 f fd ["_law_script"] c_law := by
  refine fn_body (N := ["_law_script", "_law_pen_here", "_law_one", "_law_before", "_law_text_here", "_law_due", "_law_size", "_law_found_here"]) (ps := ["_law_script"]) (k := 30) F sc_law hK fun cdv A outer sh H E c hp => ?_
  exact (s_seq (s_set 1 sc_law.nd (e_call ((ok_law_pen M hK).mono (by decide)) c (a_cons (e_var 0) a_nil)))
  (s_seq (s_for (vs := [2]) c hp (i_any c (e_call0 ((ok_law_wrong M hK).mono (by decide)).gc c)) (g_name 2 sc_law.nd) (s_seq (s_set 3 sc_law.nd (e_blt (b_reprA c) M.n_repr (a_cons (e_var 2) a_nil)))
    (s_one (s_if (t_bool (w_or (t_cmp (o_ne c) (e_call ((ok_law_found M hK).mono (by decide)) c (a_cons (e_var 2) a_nil)) e_str) (w_one (t_cmp (o_ne c) (e_blt (b_reprA c) M.n_repr (a_cons (e_var 2) a_nil)) (e_var 3))))) (s_one (s_ret e_bl)) s_nil))))
  (s_seq (s_for (vs := [4, 5]) c hp (i_any c (e_call0 ((ok_law_fine M hK).mono (by decide)).gc c)) (g_tuph c (gs_cons (g_name 4 sc_law.nd) (gs_cons (g_name 5 sc_law.nd) gs_nil))) (s_one (s_if (t_bool (w_or (t_cmp (o_ne c) (e_blt (b_reprA c) M.n_repr (a_cons (e_call ((ok_law_found M hK).mono (by decide)) c (a_cons (e_var 4) a_nil)) a_nil)) (e_blt (b_reprA c) M.n_repr (a_cons (e_var 5) a_nil))) (w_one (t_cmp (o_ne c) (e_call ((ok_write M hK).mono (by decide)) c (a_cons (e_var 5) a_nil)) (e_var 4))))) (s_one (s_ret e_bl)) s_nil)))
  (s_seq (s_set 4 sc_law.nd (e_ix c (e_ix c (e_call0 ((ok_law_fine M hK).mono (by decide)).gc c) (e_call ((ok_law_draw M hK).mono (by decide)) c (a_cons (e_var 1) (a_cons e_int a_nil)))) e_int))
  (s_seq (s_for (vs := [6]) c hp (i_range2 (a_cons e_int (a_cons (e_blt (b_len c) M.n_len (a_cons (e_var 4) a_nil)) a_nil)) M.n_range) (g_name 6 sc_law.nd) (s_seq (s_if (t_cmp (o_ne c) (e_call ((ok_law_found M hK).mono (by decide)) c (a_cons (e_sl c (e_var 4) (p_some (e_var 6)) p_no) a_nil)) e_str) (s_one (s_ret e_bl)) s_nil)
    (s_seq (s_set 7 sc_law.nd (e_call ((ok_law_found M hK).mono (by decide)) c (a_cons (e_sl c (e_var 4) p_no (p_some (e_var 6))) a_nil)))
    (s_one (s_if (t_bool (w_or (t_cmp (o_eq c) (e_var 7) e_str) (w_one (t_bool (w_and (t_cmp (o_ne c) (e_var 7) e_str) (w_one (t_cmp (o_ne c) (e_call ((ok_write M hK).mono (by decide)) c (a_cons (e_var 7) a_nil)) (e_sl c (e_var 4) p_no (p_some (e_var 6)))))))))) (s_one (s_ret e_bl)) s_nil)))))
  (s_one (s_ret e_bl)))))))
end
end K13

set_option Elab.async false
set_option linter.all false
set_option maxRecDepth 100000
set_option maxHeartbeats 4000000
set_option autoImplicit false
/-! k13: the typed texts (printed by gen_k13.py). -/
namespace K13
open PySem PySem.Spec PyProof.Rows L2 Bo
def rep (n : Nat) (x : Str) : Str := ⟨⟨(List.replicate n x.cps.toList).flatten⟩⟩
def big1 : Str := rep 2000 "select f("
def big2 : Str := Str.ofString "select " ++ rep 3000 "f(" ++ Str.ofString "a"
def wrongT : List Str := [("" : Str),
  ("select" : Str),
  ("select a" : Str),
  ("select a from" : Str),
  ("select a from t where" : Str),
  ("select a from t where a = b and" : Str),
  ("select a from t t" : Str),
  ("select a as a from t" : Str),
  ("Select a from t" : Str),
  ("select a from t " : Str),
  ("select a\nfrom t" : Str),
  ("select * from t" : Str),
  ("select 'a' from t" : Str),
  ("select f() as a from t" : Str),
  ("select f(a) from t" : Str),
  ("from t select a" : Str),
  (" select a from t" : Str),
  ("select f(a, b, c) as d from t" : Str),
  ("select distinct from t" : Str),
  ("select a, from t" : Str),
  ("select a from t where a in ('a', 'a')" : Str),
  ("select a.b.c from t" : Str),
  ("select a from s.t.u" : Str),
  ("select ,a from t" : Str),
  ("select f(f(f(f(a)))) as b from t" : Str),
  big1,
  big2,
  ("select a from t,u" : Str),
  ("select in from t" : Str),
  ("select a from t where a = 'b'" : Str),
  ("select a from t where a in ()" : Str),
  ("select a from t p, u p" : Str),
  ("select a from t where a in ('b', 'a')" : Str),
  ("select a from t where a in ('a','b')" : Str),
  ("select a from t where a" : Str),
  ("select a from t as p" : Str),
  ("select a as b as c from t" : Str),
  ("select aaaaaaaaa from t" : Str),
  ("select a1 from t" : Str),
  ("select a from t where a in ('A')" : Str),
  ("select 'as' as as from t" : Str),
  ("select t.* as a from t" : Str),
  ("select a from p, q, r, s, t" : Str),
  ("select a from t where a = b and a = b and a = b and a = b and a = b and a = b and a = b and a = b and a = b" : Str),
  ("select a, b, c, d, e, f, g, h, i from t" : Str),
  ("select a from t where a in ('a', 'b', 'c', 'd', 'e', 'f', 'g', 'h', 'i')" : Str)]
def wrongO : List D := [.non, .int 0, .bl true, .lst [], .tup [], .dct [] [], .lst [.str ("select a from t" : Str)], .tup [.str ("select a from t" : Str)]]
def wrongL : List D := wrongT.map D.str ++ wrongO
def fT0 : Str := "select a from t"
def fD0 : D := .tup [.bl false, .tup [.tup [.str ("column" : Str), .tup [.non, .str ("a" : Str)], .str ("a" : Str)]], .tup [.tup [.non, .str ("t" : Str), .str ("t" : Str)]], .tup []]
def fT1 : Str := "select distinct p.b as a from s.t p"
def fD1 : D := .tup [.bl true, .tup [.tup [.str ("column" : Str), .tup [.str ("p" : Str), .str ("b" : Str)], .str ("a" : Str)]], .tup [.tup [.str ("s" : Str), .str ("t" : Str), .str ("p" : Str)]], .tup []]
def fT2 : Str := "select f(s.f(f('in', a))) as b from t, u p where a = t.a and t.a in ('and', 'where')"
def fD2 : D := .tup [.bl false, .tup [.tup [.str ("term" : Str), .tup [.str ("call" : Str), .non, .str ("f" : Str), .tup [.tup [.str ("call" : Str), .str ("s" : Str), .str ("f" : Str), .tup [.tup [.str ("call" : Str), .non, .str ("f" : Str), .tup [.str ("in" : Str), .tup [.non, .str ("a" : Str)]]]]]]], .str ("b" : Str)]], .tup [.tup [.non, .str ("t" : Str), .str ("t" : Str)], .tup [.non, .str ("u" : Str), .str ("p" : Str)]], .tup [.tup [.str ("equal" : Str), .tup [.non, .str ("a" : Str)], .tup [.str ("t" : Str), .str ("a" : Str)]], .tup [.str ("in" : Str), .tup [.str ("t" : Str), .str ("a" : Str)], .tup [.str ("and" : Str), .str ("where" : Str)]]]]
def fT3 : Str := "select t.*, 'select' as id, t.id, t.id as t from t"
def fD3 : D := .tup [.bl false, .tup [.tup [.str ("star" : Str), .str ("t" : Str)], .tup [.str ("term" : Str), .str ("select" : Str), .str ("id" : Str)], .tup [.str ("column" : Str), .tup [.str ("t" : Str), .str ("id" : Str)], .str ("id" : Str)], .tup [.str ("column" : Str), .tup [.str ("t" : Str), .str ("id" : Str)], .str ("t" : Str)]], .tup [.tup [.non, .str ("t" : Str), .str ("t" : Str)]], .tup []]
def fT4 : Str := "select call.id, call(call.id) as a from call"
def fD4 : D := .tup [.bl false, .tup [.tup [.str ("column" : Str), .tup [.str ("call" : Str), .str ("id" : Str)], .str ("id" : Str)], .tup [.str ("term" : Str), .tup [.str ("call" : Str), .non, .str ("call" : Str), .tup [.tup [.str ("call" : Str), .str ("id" : Str)]]], .str ("a" : Str)]], .tup [.tup [.non, .str ("call" : Str), .str ("call" : Str)]], .tup []]
def fT5 : Str := "select a, b, c, d, e, f, g, h from t where a in ('a', 'ab', 'abc', 'abcd', 'abcde', 'abcdef', 'abcdefg', 'abcdefgh')"
def fD5 : D := .tup [.bl false, .tup [.tup [.str ("column" : Str), .tup [.non, .str ("a" : Str)], .str ("a" : Str)], .tup [.str ("column" : Str), .tup [.non, .str ("b" : Str)], .str ("b" : Str)], .tup [.str ("column" : Str), .tup [.non, .str ("c" : Str)], .str ("c" : Str)], .tup [.str ("column" : Str), .tup [.non, .str ("d" : Str)], .str ("d" : Str)], .tup [.str ("column" : Str), .tup [.non, .str ("e" : Str)], .str ("e" : Str)], .tup [.str ("column" : Str), .tup [.non, .str ("f" : Str)], .str ("f" : Str)], .tup [.str ("column" : Str), .tup [.non, .str ("g" : Str)], .str ("g" : Str)], .tup [.str ("column" : Str), .tup [.non, .str ("h" : Str)], .str ("h" : Str)]], .tup [.tup [.non, .str ("t" : Str), .str ("t" : Str)]], .tup [.tup [.str ("in" : Str), .tup [.non, .str ("a" : Str)], .tup [.str ("a" : Str), .str ("ab" : Str), .str ("abc" : Str), .str ("abcd" : Str), .str ("abcde" : Str), .str ("abcdef" : Str), .str ("abcdefg" : Str), .str ("abcdefgh" : Str)]]]]
def fT6 : Str := "select a from t where a = t.b and a in ('c') and a = t.b and a in ('c') and a = t.b and a in ('c') and a = t.b and a in ('c')"
def fD6 : D := .tup [.bl false, .tup [.tup [.str ("column" : Str), .tup [.non, .str ("a" : Str)], .str ("a" : Str)]], .tup [.tup [.non, .str ("t" : Str), .str ("t" : Str)]], .tup [.tup [.str ("equal" : Str), .tup [.non, .str ("a" : Str)], .tup [.str ("t" : Str), .str ("b" : Str)]], .tup [.str ("in" : Str), .tup [.non, .str ("a" : Str)], .tup [.str ("c" : Str)]], .tup [.str ("equal" : Str), .tup [.non, .str ("a" : Str)], .tup [.str ("t" : Str), .str ("b" : Str)]], .tup [.str ("in" : Str), .tup [.non, .str ("a" : Str)], .tup [.str ("c" : Str)]], .tup [.str ("equal" : Str), .tup [.non, .str ("a" : Str)], .tup [.str ("t" : Str), .str ("b" : Str)]], .tup [.str ("in" : Str), .tup [.non, .str ("a" : Str)], .tup [.str ("c" : Str)]], .tup [.str ("equal" : Str), .tup [.non, .str ("a" : Str)], .tup [.str ("t" : Str), .str ("b" : Str)]], .tup [.str ("in" : Str), .tup [.non, .str ("a" : Str)], .tup [.str ("c" : Str)]]]]
def fineP : List (Str × D) := [(fT0, fD0), (fT1, fD1), (fT2, fD2), (fT3, fD3), (fT4, fD4), (fT5, fD5), (fT6, fD6)]
def fineL : List D := fineP.map fun p => .tup [.str p.1, p.2]
theorem fine0 : Rdr.readP fT0 = some fD0 := by kernel_rfl
theorem fine1 : Rdr.readP fT1 = some fD1 := by kernel_rfl
theorem fine2 : Rdr.readP fT2 = some fD2 := by kernel_rfl
theorem fine3 : Rdr.readP fT3 = some fD3 := by kernel_rfl
theorem fine4 : Rdr.readP fT4 = some fD4 := by kernel_rfl
theorem fine5 : Rdr.readP fT5 = some fD5 := by kernel_rfl
theorem fine6 : Rdr.readP fT6 = some fD6 := by kernel_rfl
theorem wrong0 : Rdr.readP ("" : Str) = none := by kernel_rfl
theorem wrong1 : Rdr.readP ("select" : Str) = none := by kernel_rfl
theorem wrong2 : Rdr.readP ("select a" : Str) = none := by kernel_rfl
theorem wrong3 : Rdr.readP ("select a from" : Str) = none := by kernel_rfl
theorem wrong4 : Rdr.readP ("select a from t where" : Str) = none := by kernel_rfl
theorem wrong5 : Rdr.readP ("select a from t where a = b and" : Str) = none := by kernel_rfl
theorem wrong6 : Rdr.readP ("select a from t t" : Str) = none := by kernel_rfl
theorem wrong7 : Rdr.readP ("select a as a from t" : Str) = none := by kernel_rfl
theorem wrong8 : Rdr.readP ("Select a from t" : Str) = none := by kernel_rfl
theorem wrong9 : Rdr.readP ("select a from t " : Str) = none := by kernel_rfl
theorem wrong10 : Rdr.readP ("select a\nfrom t" : Str) = none := by kernel_rfl
theorem wrong11 : Rdr.readP ("select * from t" : Str) = none := by kernel_rfl
theorem wrong12 : Rdr.readP ("select 'a' from t" : Str) = none := by kernel_rfl
theorem wrong13 : Rdr.readP ("select f() as a from t" : Str) = none := by kernel_rfl
theorem wrong14 : Rdr.readP ("select f(a) from t" : Str) = none := by kernel_rfl
theorem wrong15 : Rdr.readP ("from t select a" : Str) = none := by kernel_rfl
theorem wrong16 : Rdr.readP (" select a from t" : Str) = none := by kernel_rfl
theorem wrong17 : Rdr.readP ("select f(a, b, c) as d from t" : Str) = none := by kernel_rfl
theorem wrong18 : Rdr.readP ("select distinct from t" : Str) = none := by kernel_rfl
theorem wrong19 : Rdr.readP ("select a, from t" : Str) = none := by kernel_rfl
theorem wrong20 : Rdr.readP ("select a from t where a in ('a', 'a')" : Str) = none := by kernel_rfl
theorem wrong21 : Rdr.readP ("select a.b.c from t" : Str) = none := by kernel_rfl
theorem wrong22 : Rdr.readP ("select a from s.t.u" : Str) = none := by kernel_rfl
theorem wrong23 : Rdr.readP ("select ,a from t" : Str) = none := by kernel_rfl
theorem wrong24 : Rdr.readP ("select f(f(f(f(a)))) as b from t" : Str) = none := by kernel_rfl
theorem wrong27 : Rdr.readP ("select a from t,u" : Str) = none := by kernel_rfl
theorem wrong28 : Rdr.readP ("select in from t" : Str) = none := by kernel_rfl
theorem wrong29 : Rdr.readP ("select a from t where a = 'b'" : Str) = none := by kernel_rfl
theorem wrong30 : Rdr.readP ("select a from t where a in ()" : Str) = none := by kernel_rfl
theorem wrong31 : Rdr.readP ("select a from t p, u p" : Str) = none := by kernel_rfl
theorem wrong32 : Rdr.readP ("select a from t where a in ('b', 'a')" : Str) = none := by kernel_rfl
theorem wrong33 : Rdr.readP ("select a from t where a in ('a','b')" : Str) = none := by kernel_rfl
theorem wrong34 : Rdr.readP ("select a from t where a" : Str) = none := by kernel_rfl
theorem wrong35 : Rdr.readP ("select a from t as p" : Str) = none := by kernel_rfl
theorem wrong36 : Rdr.readP ("select a as b as c from t" : Str) = none := by kernel_rfl
theorem wrong37 : Rdr.readP ("select aaaaaaaaa from t" : Str) = none := by kernel_rfl
theorem wrong38 : Rdr.readP ("select a1 from t" : Str) = none := by kernel_rfl
theorem wrong39 : Rdr.readP ("select a from t where a in ('A')" : Str) = none := by kernel_rfl
theorem wrong40 : Rdr.readP ("select 'as' as as from t" : Str) = none := by kernel_rfl
theorem wrong41 : Rdr.readP ("select t.* as a from t" : Str) = none := by kernel_rfl
theorem wrong42 : Rdr.readP ("select a from p, q, r, s, t" : Str) = none := by kernel_rfl
theorem wrong43 : Rdr.readP ("select a from t where a = b and a = b and a = b and a = b and a = b and a = b and a = b and a = b and a = b" : Str) = none := by kernel_rfl
theorem wrong44 : Rdr.readP ("select a, b, c, d, e, f, g, h, i from t" : Str) = none := by kernel_rfl
theorem wrong45 : Rdr.readP ("select a from t where a in ('a', 'b', 'c', 'd', 'e', 'f', 'g', 'h', 'i')" : Str) = none := by kernel_rfl
end K13

set_option Elab.async false
set_option linter.all false
set_option maxRecDepth 100000
set_option maxHeartbeats 4000000
set_option autoImplicit false
/-! k13: what the law's lists are (printed by gen_k13b.py). -/
namespace K13
open PySem PySem.Spec PyProof.Rows L2 Bo
def resH : Res D → Hc
  | .ok _ h => h
  | _ => hc0
def resN : RS → Hc
  | .nx _ h => h
  | .rt _ h => h
  | _ => hc0
def pen (o : Ob) : Hc := ⟨1, [(0, o)]⟩
theorem rd : c_read = Rdr.c_read := rfl
theorem wt : c_write = Rdr.c_write := rfl
theorem dr : c_law_draw = c_draw := rfl
theorem pn : c_law_pen = c_pen := rfl
theorem fine_val (o : Ob) : c_law_fine [] (pen o) = .ok (.lst fineL) (resH (c_law_fine [] (pen o))) := by kernel_rfl
theorem fine_hp (o : Ob) : (resH (c_law_fine [] (pen o))).m.filter (fun p => decide (p.1 < 1)) = [(0, o)] := by kernel_rfl
def w1 (G : Sl → Hc → RS) : Sl → Hc → RS := seqS (asgS 0 (newE (kA (cE (.str "")) (kA (cE (.str "select")) (kA (cE (.str "select a")) (kA (cE (.str "select a from")) (kA (cE (.str "select a from t where")) (kA (cE (.str "select a from t where a = b and")) (nA)))))))))
  (seqS (asgS 0 (nadE (vE 0) (lstE (kA (cE (.str "select a from t t")) (kA (cE (.str "select a as a from t")) (kA (cE (.str "Select a from t")) (nA)))))))
  (seqS (asgS 0 (nadE (vE 0) (lstE (kA (cE (.str "select a from t ")) (kA (cE (.str "select a\nfrom t")) (nA))))))
  (seqS (asgS 0 (nadE (vE 0) (lstE (kA (cE (.str "select * from t")) (kA (cE (.str "select 'a' from t")) (kA (cE (.str "select f() as a from t")) (nA)))))))
  (seqS (asgS 0 (nadE (vE 0) (lstE (kA (cE (.str "select f(a) from t")) (kA (cE (.str "from t select a")) (nA))))))
  (seqS (asgS 0 (nadE (vE 0) (lstE (kA (cE (.str " select a from t")) (kA (cE (.str "select f(a, b, c) as d from t")) (kA (cE (.str "select distinct from t")) (kA (cE (.str "select a, from t")) (nA))))))))
  (seqS (asgS 0 (nadE (vE 0) (lstE (kA (cE (.str "select a from t where a in ('a', 'a')")) (kA (cE (.str "select a.b.c from t")) (nA))))))
  (seqS (asgS 0 (nadE (vE 0) (lstE (kA (cE (.str "select a from s.t.u")) (kA (cE (.str "select ,a from t")) (nA))))))
  (G))))))))
def w2 : Sl → Hc → RS := (asgS 0 (nadE (vE 0) (lstE (kA (cE (.str "select f(f(f(f(a)))) as b from t")) (kA (opE mulT (cE (.str "select f(")) (cE (.int 2000))) (nA))))))
def w2b : Sl → Hc → RS := (asgS 0 (nadE (vE 0) (lstE (kA (opE addD (opE addD (cE (.str "select ")) (opE mulT (cE (.str "f(")) (cE (.int 3000)))) (cE (.str "a"))) (kA (cE (.str "select a from t,u")) (nA))))))
def w3 : Sl → Hc → RS := seqS (asgS 0 (nadE (vE 0) (lstE (kA (cE (.str "select in from t")) (kA (cE (.str "select a from t where a = 'b'")) (nA))))))
  (seqS (asgS 0 (nadE (vE 0) (lstE (kA (cE (.str "select a from t where a in ()")) (kA (cE (.str "select a from t p, u p")) (nA))))))
  (seqS (asgS 0 (nadE (vE 0) (lstE (kA (cE (.str "select a from t where a in ('b', 'a')")) (kA (cE (.str "select a from t where a in ('a','b')")) (nA))))))
  (seqS (asgS 0 (nadE (vE 0) (lstE (kA (cE (.str "select a from t where a")) (nA)))))
  (seqS (asgS 0 (nadE (vE 0) (lstE (kA (cE (.str "select a from t as p")) (kA (cE (.str "select a as b as c from t")) (nA))))))
  (seqS (asgS 0 (nadE (vE 0) (lstE (kA (opE addD (opE addD (cE (.str "select ")) (opE mulT (cE (.str "a")) (cE (.int 9)))) (cE (.str " from t"))) (kA (cE (.str "select a1 from t")) (nA))))))
  (seqS (asgS 0 (nadE (vE 0) (lstE (kA (cE (.str "select a from t where a in ('A')")) (kA (cE (.str "select 'as' as as from t")) (nA))))))
  (seqS (asgS 0 (nadE (vE 0) (lstE (kA (cE (.str "select t.* as a from t")) (kA (cE (.str "select a from p, q, r, s, t")) (nA))))))
  (seqS (exS (mtE appD (vE 0) (kA (opE addD (cE (.str "select a from t where ")) (joinE (cE (.str " and ")) (repE (kA (cE (.str "a = b")) (nA)) (cE (.int 9))))) (nA))))
  (seqS (exS (mtE appD (vE 0) (kA (cE (.str "select a, b, c, d, e, f, g, h, i from t")) (nA))))
  (seqS (exS (mtE appD (vE 0) (kA (opE addD (opE addD (cE (.str "select a from t where a in ('")) (joinE (cE (.str "', '")) (blE listS (kA (cE (.str "abcdefghi")) (nA))))) (cE (.str "')"))) (nA))))
  ((retS (opE addX (vE 0) (lstE (kA (cE .non) (kA (cE (.int 0)) (kA (cE (.bl true)) (kA (lstE (nA)) (kA (tupE (nA)) (kA (fun _ hc => .ok (.dct [] []) hc) (kA (lstE (kA (cE (.str "select a from t")) (nA))) (kA (tupE (kA (cE (.str "select a from t")) (nA))) (nA)))))))))))))))))))))))
theorem w_eq : d_law_wrong = w1 (seqS w2 (seqS w2b w3)) := rfl
def h9 (o : Ob) : Hc := resN (w1 (fun sl hc => .nx sl hc) [none] (pen o))
theorem w1_val (o : Ob) (G : Sl → Hc → RS) : w1 G [none] (pen o) = G [some (.loc 8)] (h9 o) := by kernel_rfl
theorem rep_len (n : Nat) (x : Str) : (rep n x).length = n * x.length := by
  show ((List.replicate n x.cps.toList).flatten.toArray).size = _
  rw [List.size_toArray, List.length_flatten]
  simp [Str.length]
theorem big_e1 (sl : Sl) (hc : Hc) : opE mulT (cE (.str "select f(")) (cE (.int 2000)) sl hc = .ok (.str big1) hc := opO (a := .str "select f(") (b := .int 2000) rfl rfl rfl
theorem big_e (sl : Sl) (hc : Hc) : opE addD (opE addD (cE (.str "select ")) (opE mulT (cE (.str "f(")) (cE (.int 3000)))) (cE (.str "a")) sl hc = .ok (.str big2) hc := by
  have m : opE mulT (cE (.str "f(")) (cE (.int 3000)) sl hc = .ok (.str (rep 3000 "f(")) hc := opO (a := .str "f(") (b := .int 3000) rfl rfl rfl
  have l1 : (rep 3000 "f(").length = 3000 * 2 := rep_len _ _
  exact opO (opO (a := .str "select ") (b := .str (rep 3000 "f(")) rfl m (add_str (by rw [l1]; show 7 + _ ≤ _; omega))) (b := .str "a") rfl (add_str (by rw [app_len, l1]; show 7 + _ + 1 ≤ _; omega))
def pre9 : List D := [.str ("" : Str), .str ("select" : Str), .str ("select a" : Str), .str ("select a from" : Str), .str ("select a from t where" : Str), .str ("select a from t where a = b and" : Str), .str ("select a from t t" : Str), .str ("select a as a from t" : Str), .str ("Select a from t" : Str), .str ("select a from t " : Str), .str ("select a\nfrom t" : Str), .str ("select * from t" : Str), .str ("select 'a' from t" : Str), .str ("select f() as a from t" : Str), .str ("select f(a) from t" : Str), .str ("from t select a" : Str), .str (" select a from t" : Str), .str ("select f(a, b, c) as d from t" : Str), .str ("select distinct from t" : Str), .str ("select a, from t" : Str), .str ("select a from t where a in ('a', 'a')" : Str), .str ("select a.b.c from t" : Str), .str ("select a from s.t.u" : Str), .str ("select ,a from t" : Str)]
def post9 : List D := [.str ("select in from t" : Str), .str ("select a from t where a = 'b'" : Str), .str ("select a from t where a in ()" : Str), .str ("select a from t p, u p" : Str), .str ("select a from t where a in ('b', 'a')" : Str), .str ("select a from t where a in ('a','b')" : Str), .str ("select a from t where a" : Str), .str ("select a from t as p" : Str), .str ("select a as b as c from t" : Str), .str ("select aaaaaaaaa from t" : Str), .str ("select a1 from t" : Str), .str ("select a from t where a in ('A')" : Str), .str ("select 'as' as as from t" : Str), .str ("select t.* as a from t" : Str), .str ("select a from p, q, r, s, t" : Str), .str ("select a from t where a = b and a = b and a = b and a = b and a = b and a = b and a = b and a = b and a = b" : Str), .str ("select a, b, c, d, e, f, g, h, i from t" : Str), .str ("select a from t where a in ('a', 'b', 'c', 'd', 'e', 'f', 'g', 'h', 'i')" : Str)] ++ wrongO
theorem nad_step {i : Nat} {h : Hc} {xs ys : List D} {es : Sl → Hc → Res (List D)} (e1 : lstN h (.loc i) = some xs) (e2 : es [some (.loc i)] h = .ok ys h) (hl : ys.length ≤ 1000) (hz : xs.length ≤ 1000) : asgS 0 (nadE (vE 0) (lstE es)) [some (.loc i)] h = .nx [some (.loc h.next)] (h.new (.lst (xs ++ ys))) := by
  have e : nadE (vE 0) (lstE es) [some (.loc i)] h = .ok (.loc h.next) (h.new (.lst (xs ++ ys))) := by
    unfold nadE
    rw [vO (d := .loc i) rfl]
    have l2 := lstO (hc := h) e2 hl
    have q : lstN h (.lst ys) = some ys := rfl
    have z : xs.length + ys.length ≤ sizeLine := by rw [sizeLine_eq]; omega
    simp only [Res.bind, l2, e1, q, z, if_true]
  exact asgO e
theorem lst_8 (o : Ob) : lstN (h9 o) (.loc 8) = some pre9 := by kernel_rfl
theorem next_8 (o : Ob) : (h9 o).next = 9 := by kernel_rfl
def pre10 (B : Str) : List D := pre9 ++ [.str ("select f(f(f(f(a)))) as b from t" : Str), .str B]
def h10 (o : Ob) (B : Str) : Hc := (h9 o).new (.lst (pre10 B))
def h11 (o : Ob) (B C : Str) : Hc := (h10 o B).new (.lst (pre10 B ++ [.str C, .str ("select a from t,u" : Str)]))
theorem lst_9 (o : Ob) (B : Str) : lstN (h10 o B) (.loc 9) = some (pre10 B) := by kernel_rfl
theorem next_9 (o : Ob) (B : Str) : (h10 o B).next = 10 := by kernel_rfl
theorem w2_val (o : Ob) : w2 [some (.loc 8)] (h9 o) = .nx [some (.loc 9)] (h10 o big1) := by
  have e := nad_step (i := 8) (h := h9 o) (es := (kA (cE (.str "select f(f(f(f(a)))) as b from t")) (kA (opE mulT (cE (.str "select f(")) (cE (.int 2000))) (nA)))) (ys := [.str ("select f(f(f(f(a)))) as b from t" : Str), .str big1]) (lst_8 o) (kO (hc1 := h9 o) rfl (k1 (big_e1 _ _))) (by simp) (by decide)
  rw [next_8] at e
  exact e
theorem w2b_val (o : Ob) : w2b [some (.loc 9)] (h10 o big1) = .nx [some (.loc 10)] (h11 o big1 big2) := by
  have e := nad_step (i := 9) (h := h10 o big1) (es := (kA (opE addD (opE addD (cE (.str "select ")) (opE mulT (cE (.str "f(")) (cE (.int 3000)))) (cE (.str "a"))) (kA (cE (.str "select a from t,u")) (nA)))) (ys := [.str big2, .str ("select a from t,u" : Str)]) (lst_9 o big1) (kO (big_e _ _) (k1 rfl)) (by simp) (by decide)
  rw [next_9] at e
  exact e

theorem w3_val (o : Ob) (B C : Str) : w3 [some (.loc 10)] (h11 o B C) = .rt (.lst (pre10 B ++ [.str C, .str ("select a from t,u" : Str)] ++ post9)) (resN (w3 [some (.loc 10)] (h11 o B C))) := by kernel_rfl
theorem w3_hp (o : Ob) (B C : Str) : (resN (w3 [some (.loc 10)] (h11 o B C))).m.filter (fun p => decide (p.1 < 1)) = [(0, o)] := by kernel_rfl
theorem wrong_l : pre10 big1 ++ [.str big2, .str ("select a from t,u" : Str)] ++ post9 = wrongL := by kernel_rfl
theorem wrong_val (o : Ob) : ∃ h, c_law_wrong [] (pen o) = .ok (.lst wrongL) h ∧ h.m.filter (fun p => decide (p.1 < 1)) = [(0, o)] := by
  refine ⟨_, ?_, w3_hp o big1 big2⟩
  have v := w3_val o big1 big2
  generalize resN (w3 [some (.loc 10)] (h11 o big1 big2)) = h at v ⊢
  have e : d_law_wrong [none] (pen o) = .rt (.lst wrongL) h := by
    rw [w_eq, w1_val, seqN (w2_val o), seqN (w2b_val o), v, wrong_l]
  exact fnO rfl e
end K13

set_option Elab.async false
set_option linter.all false
set_option maxRecDepth 100000
set_option maxHeartbeats 4000000
set_option autoImplicit false
/-! k13: each typed text. -/
namespace K13
open PySem PySem.Spec PyProof.Rows L2 Bo
/-! ### the huge texts: their first words are enough -/
def selF : List Nat := [115, 101, 108, 101, 99, 116, 32, 102, 40]
theorem selF_eq : (Str.ofString "select f(").cps.toList = selF := by decide +kernel
theorem sel_eq : (Str.ofString "select ").cps.toList = [115, 101, 108, 101, 99, 116, 32] := by decide +kernel
theorem f_eq : (Str.ofString "f(").cps.toList = [102, 40] := by decide +kernel
theorem words1 (m : Nat) (R : List Nat) : ∃ W, Rdr.wordsL (m + 6) (selF ++ (selF ++ R)) = [115, 101, 108, 101, 99, 116] :: [32] :: [102] :: [40] :: [115, 101, 108, 101, 99, 116] :: [32] :: W := ⟨_, rfl⟩
theorem stm1 (W : List Str) : Rdr.stmP (Rdr.mkS [115, 101, 108, 101, 99, 116] :: Rdr.mkS [32] :: Rdr.mkS [102] :: Rdr.mkS [40] :: Rdr.mkS [115, 101, 108, 101, 99, 116] :: Rdr.mkS [32] :: W) 0 = none := by kernel_rfl
theorem words2 (m : Nat) (R : List Nat) : ∃ W, Rdr.wordsL (m + 10) ([115, 101, 108, 101, 99, 116, 32] ++ ([102, 40] ++ ([102, 40] ++ ([102, 40] ++ ([102, 40] ++ R))))) = [115, 101, 108, 101, 99, 116] :: [32] :: [102] :: [40] :: [102] :: [40] :: [102] :: [40] :: [102] :: [40] :: W := ⟨_, rfl⟩
theorem stm2 (W : List Str) : Rdr.stmP (Rdr.mkS [115, 101, 108, 101, 99, 116] :: Rdr.mkS [32] :: Rdr.mkS [102] :: Rdr.mkS [40] :: Rdr.mkS [102] :: Rdr.mkS [40] :: Rdr.mkS [102] :: Rdr.mkS [40] :: Rdr.mkS [102] :: Rdr.mkS [40] :: W) 0 = none := by kernel_rfl
theorem big1_list : big1.cps.toList = selF ++ (selF ++ (List.replicate 1998 selF).flatten) := by
  show ((List.replicate 2000 (Str.ofString "select f(").cps.toList).flatten.toArray).toList = _
  rw [List.toList_toArray, selF_eq, show (2000 : Nat) = 1998 + 2 from rfl, List.replicate_succ, List.replicate_succ, List.flatten_cons, List.flatten_cons]
theorem big1_len : big1.cps.toList.length = 17994 + 6 := by
  have : big1.length = 2000 * 9 := rep_len _ _
  exact this
theorem big2_list : big2.cps.toList = [115, 101, 108, 101, 99, 116, 32] ++ ([102, 40] ++ ([102, 40] ++ ([102, 40] ++ ([102, 40] ++ ((List.replicate 2996 [102, 40]).flatten ++ (Str.ofString "a").cps.toList))))) := by
  unfold big2
  rw [app_list, app_list, sel_eq]
  show _ ++ ((List.replicate 3000 (Str.ofString "f(").cps.toList).flatten.toArray).toList ++ _ = _
  rw [List.toList_toArray, f_eq, show (3000 : Nat) = 2996 + 4 from rfl, List.replicate_succ, List.replicate_succ, List.replicate_succ, List.replicate_succ, List.flatten_cons, List.flatten_cons, List.flatten_cons, List.flatten_cons]
  simp only [List.append_assoc]
theorem big2_len : big2.cps.toList.length = 5998 + 10 := by
  have l1 : (rep 3000 "f(").length = 3000 * 2 := rep_len _ _
  have : big2.length = 7 + 3000 * 2 + 1 := by
    unfold big2
    rw [app_len, app_len, l1]
    rfl
  exact this
theorem big1_none : Rdr.readP big1 = none := by
  have e : ∃ W, Rdr.wordsOf big1 = Rdr.mkS [115, 101, 108, 101, 99, 116] :: Rdr.mkS [32] :: Rdr.mkS [102] :: Rdr.mkS [40] :: Rdr.mkS [115, 101, 108, 101, 99, 116] :: Rdr.mkS [32] :: W := by
    obtain ⟨W, h⟩ := words1 17994 (List.replicate 1998 selF).flatten
    refine ⟨W.map Rdr.mkS, ?_⟩
    unfold Rdr.wordsOf
    rw [big1_len, big1_list, h]
    rfl
  obtain ⟨W, e⟩ := e
  unfold Rdr.readP
  rw [e, stm1]
  rfl
theorem big2_none : Rdr.readP big2 = none := by
  have e : ∃ W, Rdr.wordsOf big2 = Rdr.mkS [115, 101, 108, 101, 99, 116] :: Rdr.mkS [32] :: Rdr.mkS [102] :: Rdr.mkS [40] :: Rdr.mkS [102] :: Rdr.mkS [40] :: Rdr.mkS [102] :: Rdr.mkS [40] :: Rdr.mkS [102] :: Rdr.mkS [40] :: W := by
    obtain ⟨W, h⟩ := words2 5998 ((List.replicate 2996 [102, 40]).flatten ++ (Str.ofString "a").cps.toList)
    refine ⟨W.map Rdr.mkS, ?_⟩
    unfold Rdr.wordsOf
    rw [big2_len, big2_list, h]
    rfl
  obtain ⟨W, e⟩ := e
  unfold Rdr.readP
  rw [e, stm2]
  rfl
theorem rep_ac {n : Nat} {x : Str} (h : Ac x) : Ac (rep n x) := fun c hc => by
  have hc' : c ∈ ((List.replicate n x.cps.toList).flatten.toArray).toList := hc
  rw [List.toList_toArray, List.mem_flatten] at hc'
  obtain ⟨l, h1, h2⟩ := hc'
  rw [(List.mem_replicate.mp h1).2] at h2
  exact h c h2
structure Wr (x : Str) : Prop where
  none : Rdr.readP x = none
  ac : Ac x
  len : x.cps.toList.length ≤ 19000
theorem wr_of {x : Str} (h : Rdr.readP x = none) (h2 : (acB x && decide (x.length ≤ 1000)) = true) : Wr x := by
  rw [Bool.and_eq_true, decide_eq_true_eq] at h2
  exact ⟨h, ac_of h2.1, by have : x.cps.toList.length = x.length := rfl; omega⟩
theorem wr_big1 : Wr big1 := ⟨big1_none, rep_ac (ac_of (by decide +kernel)), by rw [big1_len]; omega⟩
theorem wr_big2 : Wr big2 := ⟨big2_none, ac_app (ac_app (ac_of (by decide +kernel)) (rep_ac (ac_of (by decide +kernel)))) (ac_of (by decide +kernel)), by rw [big2_len]; omega⟩
theorem wrongs : ∀ x ∈ wrongT, Wr x := fun x hx => by
  simp only [wrongT, List.mem_cons, List.not_mem_nil, or_false] at hx
  rcases hx with rfl | rfl | rfl | rfl | rfl | rfl | rfl | rfl | rfl | rfl | rfl | rfl | rfl | rfl | rfl | rfl | rfl | rfl | rfl | rfl | rfl | rfl | rfl | rfl | rfl | rfl | rfl | rfl | rfl | rfl | rfl | rfl | rfl | rfl | rfl | rfl | rfl | rfl | rfl | rfl | rfl | rfl | rfl | rfl | rfl | rfl
  · exact wr_of wrong0 (by decide +kernel)
  · exact wr_of wrong1 (by decide +kernel)
  · exact wr_of wrong2 (by decide +kernel)
  · exact wr_of wrong3 (by decide +kernel)
  · exact wr_of wrong4 (by decide +kernel)
  · exact wr_of wrong5 (by decide +kernel)
  · exact wr_of wrong6 (by decide +kernel)
  · exact wr_of wrong7 (by decide +kernel)
  · exact wr_of wrong8 (by decide +kernel)
  · exact wr_of wrong9 (by decide +kernel)
  · exact wr_of wrong10 (by decide +kernel)
  · exact wr_of wrong11 (by decide +kernel)
  · exact wr_of wrong12 (by decide +kernel)
  · exact wr_of wrong13 (by decide +kernel)
  · exact wr_of wrong14 (by decide +kernel)
  · exact wr_of wrong15 (by decide +kernel)
  · exact wr_of wrong16 (by decide +kernel)
  · exact wr_of wrong17 (by decide +kernel)
  · exact wr_of wrong18 (by decide +kernel)
  · exact wr_of wrong19 (by decide +kernel)
  · exact wr_of wrong20 (by decide +kernel)
  · exact wr_of wrong21 (by decide +kernel)
  · exact wr_of wrong22 (by decide +kernel)
  · exact wr_of wrong23 (by decide +kernel)
  · exact wr_of wrong24 (by decide +kernel)
  · exact wr_big1
  · exact wr_big2
  · exact wr_of wrong27 (by decide +kernel)
  · exact wr_of wrong28 (by decide +kernel)
  · exact wr_of wrong29 (by decide +kernel)
  · exact wr_of wrong30 (by decide +kernel)
  · exact wr_of wrong31 (by decide +kernel)
  · exact wr_of wrong32 (by decide +kernel)
  · exact wr_of wrong33 (by decide +kernel)
  · exact wr_of wrong34 (by decide +kernel)
  · exact wr_of wrong35 (by decide +kernel)
  · exact wr_of wrong36 (by decide +kernel)
  · exact wr_of wrong37 (by decide +kernel)
  · exact wr_of wrong38 (by decide +kernel)
  · exact wr_of wrong39 (by decide +kernel)
  · exact wr_of wrong40 (by decide +kernel)
  · exact wr_of wrong41 (by decide +kernel)
  · exact wr_of wrong42 (by decide +kernel)
  · exact wr_of wrong43 (by decide +kernel)
  · exact wr_of wrong44 (by decide +kernel)
  · exact wr_of wrong45 (by decide +kernel)
end K13

set_option Elab.async false
set_option linter.all false
set_option maxRecDepth 100000
set_option maxHeartbeats 4000000
set_option autoImplicit false
/-! k13: the law holds. -/
namespace K13
open PySem PySem.Spec PyProof.Rows L2 Bo
section
variable {hc : Hc}
theorem found_none {d : D} (e : gcR c_read [d] hc = .exc 1 hc) : c_law_found [d] hc = .ok (.str "none") hc := by
  have t : tryS (ancT 2 anc 0) 3 1 (asgS 2 (callE (gcR c_read) (kA (vE 0) (nA)))) [some d, some .non, some .non, none] hc = .nx [some d, some (.ex 1), some .non, none] hc := by
    have a : asgS 2 (callE (gcR c_read) (kA (vE 0) (nA))) [some d, some .non, some .non, none] hc = .exc 1 [some d, some .non, some .non, none] hc := Rdr.asgX (callO (k1 (a := d) rfl) e)
    unfold tryS
    rw [a]
    rfl
  exact fnO rfl ((seqN (sl' := [some d, some .non, some .non, none]) (hc1 := hc) rfl).trans ((seqN t).trans ((seqN (sl' := [some d, some (.ex 1), some .non, none]) (hc1 := hc) rfl).trans rfl)))
theorem found_some {d v : D} (e : gcR c_read [d] hc = .ok v hc) : c_law_found [d] hc = .ok v hc := by
  have t : tryS (ancT 2 anc 0) 3 1 (asgS 2 (callE (gcR c_read) (kA (vE 0) (nA)))) [some d, some .non, some .non, none] hc = .nx [some d, some .non, some v, none] hc := by
    have a : asgS 2 (callE (gcR c_read) (kA (vE 0) (nA))) [some d, some .non, some .non, none] hc = .nx [some d, some .non, some v, none] hc := asgO (callO (k1 (a := d) rfl) e)
    unfold tryS
    rw [a]
  exact fnO rfl ((seqN (sl' := [some d, some .non, some .non, none]) (hc1 := hc) rfl).trans ((seqN t).trans (seqR (ifY (bO (opO (a := .non) (b := .non) rfl rfl rfl)) (retO rfl)))))
theorem ac_ok {x : Str} (h : Ac x) : PyData.strOk x = true := Rdr.strOk_iff.mpr fun c hc => by have := h c hc; omega
theorem found_wr {x : Str} (t : Rdr.Tidy hc) (w : Wr x) : c_law_found [.str x] hc = .ok (.str "none") hc := found_none (by
  rw [rd, Rdr.read_gc t w.len (ac_ok w.ac), w.none])
/-! ### the wrong ones -/
structure Wg (hc : Hc) (d : D) : Prop where
  found : c_law_found [d] hc = .ok (.str "none") hc
  repr : ∃ y, reprD hc d = some (.str y)
theorem wg_odd (t : Rdr.Tidy hc) : ∀ d ∈ wrongO, Wg hc d := fun d hd => by
  simp only [wrongO, List.mem_cons, List.not_mem_nil, or_false] at hd
  rcases hd with rfl | rfl | rfl | rfl | rfl | rfl | rfl | rfl
  all_goals refine ⟨found_none (by rw [rd]; exact Rdr.read_gcno t rfl), ?_⟩
  · exact ⟨_, rfl⟩
  · exact ⟨_, rfl⟩
  · exact ⟨_, rfl⟩
  · exact ⟨_, rfl⟩
  · exact ⟨_, rfl⟩
  · exact ⟨_, rfl⟩
  · exact repr_lst (xs := ["select a from t"]) (fun x hx => by rw [List.mem_singleton.mp hx]; exact sh_of (by decide +kernel)) (by simp)
  · exact repr_tup (xs := ["select a from t"]) (fun x hx => by rw [List.mem_singleton.mp hx]; exact sh_of (by decide +kernel)) (by simp)
theorem wg_all (t : Rdr.Tidy hc) : ∀ d ∈ wrongL, Wg hc d := fun d hd => by
  rcases List.mem_append.mp hd with hd | hd
  · obtain ⟨x, hx, rfl⟩ := List.mem_map.mp hd
    have w := wrongs x hx
    have ln : x.length ≤ 19000 := w.len
    exact ⟨found_wr t w, repr_text w.ac (by omega)⟩
  · exact wg_odd t d hd
def body1 : Sl → Hc → RS := seqS (asgS 3 (blE reprA (kA (vE 2) (nA))))
    (ifS (orT (bT (opE neO (callE c_law_found (kA (vE 2) (nA))) (cE (.str "none")))) (bT (opE neO (blE reprA (kA (vE 2) (nA))) (vE 3)))) (retS (cE (.bl false))) (nS))
theorem loop1 {a b : Option D} : ∀ (ds : List D), (∀ d ∈ ds, Wg hc d) → ∀ x2 x3, ∃ y2 y3, loopS (nmG 2) body1 ds [a, b, x2, x3, none, none, none, none] hc = .nx [a, b, y2, y3, none, none, none, none] hc
  | [], _, x2, x3 => ⟨x2, x3, rfl⟩
  | d :: ds, h, x2, x3 => by
    obtain ⟨f, y, r⟩ := h d List.mem_cons_self
    obtain ⟨y2, y3, e⟩ := loop1 (a := a) (b := b) ds (fun e he => h e (List.mem_cons_of_mem _ he)) (some d) (some (.str y))
    refine ⟨y2, y3, ?_⟩
    have t1 : asgS 3 (blE reprA (kA (vE 2) (nA))) [a, b, some d, x3, none, none, none, none] hc = .nx [a, b, some d, some (.str y), none, none, none, none] hc := asgO (blO (k1 (a := d) rfl) r)
    have t2 : bT (opE neO (callE c_law_found (kA (vE 2) (nA))) (cE (.str "none"))) [a, b, some d, some (.str y), none, none, none, none] hc = .ok false hc := bO (opO (a := .str "none") (b := .str "none") (callO (k1 (a := d) rfl) f) rfl (ne_same _))
    have t3 : bT (opE neO (blE reprA (kA (vE 2) (nA))) (vE 3)) [a, b, some d, some (.str y), none, none, none, none] hc = .ok false hc := bO (opO (a := .str y) (b := .str y) (blO (k1 (a := d) rfl) r) rfl (ne_same _))
    have e1 : body1 [a, b, some d, x3, none, none, none, none] hc = .nx [a, b, some d, some (.str y), none, none, none, none] hc := (seqN t1).trans (ifN (orN t2 t3) rfl)
    rw [loopCons (ft := nmG 2) (F := body1) (sl := [a, b, x2, x3, none, none, none, none]) rfl e1]
    exact e
/-! ### the fine ones -/
structure Fn (t : Str) (d : D) : Prop where
  read : Rdr.readP t = some d
  ac : Ac t
  len : t.length ≤ 300
  fit : Fit 64 100000 d
  suf : ((List.range (t.length - 1)).all fun k => (Rdr.readP (cutS t (some ((k + 1 : Nat) : Int)) none)).isNone) = true
  tup : Rdr.isTup d = true
theorem fit_of {d : D} {p : PyData} (h : toPy d = some p) (h2 : (p.showable && (p.leavesShort 50 && (decide (p.weight ≤ 100000) && (decide (p.depth ≤ 64) && p.canLay0)))) = true) : Fit 64 100000 d := by
  simp only [Bool.and_eq_true, decide_eq_true_eq] at h2
  exact ⟨p, h, h2.1, h2.2.1, h2.2.2.1, h2.2.2.2.1, h2.2.2.2.2⟩
theorem fn_of {t : Str} {d : D} (h : Rdr.readP t = some d) (h1 : (acB t && decide (t.length ≤ 300)) = true) (h2 : Fit 64 100000 d) (h3 : ((List.range (t.length - 1)).all fun k => (Rdr.readP (cutS t (some ((k + 1 : Nat) : Int)) none)).isNone) = true) (h4 : Rdr.isTup d = true) : Fn t d := by
  rw [Bool.and_eq_true, decide_eq_true_eq] at h1
  exact ⟨h, ac_of h1.1, h1.2, h2, h3, h4⟩
theorem fn0 : Fn fT0 fD0 := fn_of fine0 (by decide +kernel) (fit_of rfl (by kernel_rfl)) (by kernel_rfl) rfl
theorem fn1 : Fn fT1 fD1 := fn_of fine1 (by decide +kernel) (fit_of rfl (by kernel_rfl)) (by kernel_rfl) rfl
theorem fn2 : Fn fT2 fD2 := fn_of fine2 (by decide +kernel) (fit_of rfl (by kernel_rfl)) (by kernel_rfl) rfl
theorem fn3 : Fn fT3 fD3 := fn_of fine3 (by decide +kernel) (fit_of rfl (by kernel_rfl)) (by kernel_rfl) rfl
theorem fn4 : Fn fT4 fD4 := fn_of fine4 (by decide +kernel) (fit_of rfl (by kernel_rfl)) (by kernel_rfl) rfl
theorem fn5 : Fn fT5 fD5 := fn_of fine5 (by decide +kernel) (fit_of rfl (by kernel_rfl)) (by kernel_rfl) rfl
theorem fn6 : Fn fT6 fD6 := fn_of fine6 (by decide +kernel) (fit_of rfl (by kernel_rfl)) (by kernel_rfl) rfl
theorem fines : ∀ p ∈ fineP, Fn p.1 p.2 := fun p hp => by
  simp only [fineP, List.mem_cons, List.not_mem_nil, or_false] at hp
  rcases hp with rfl | rfl | rfl | rfl | rfl | rfl | rfl
  · exact fn0
  · exact fn1
  · exact fn2
  · exact fn3
  · exact fn4
  · exact fn5
  · exact fn6
theorem list_len (x : Str) : x.cps.toList.length = x.length := rfl
theorem found_fn {t : Str} {d : D} (ti : Rdr.Tidy hc) (f : Fn t d) : c_law_found [.str t] hc = .ok d hc := found_some (by
  rw [rd, Rdr.read_gc ti (by rw [list_len]; have := f.len; omega) (ac_ok f.ac), f.read])
theorem write_fn {t : Str} {d : D} (f : Fn t d) : c_write [d] hc = .ok (.str t) hc := by
  obtain ⟨p1, p2, p3⟩ := Rdr.readP_ok (by rw [list_len]; have := f.len; omega) (ac_ok f.ac) f.read
  rw [wt, Rdr.write_pd p2, p3]
def body2 : Sl → Hc → RS := ifS (orT (bT (opE neO (blE reprA (kA (callE c_law_found (kA (vE 4) (nA))) (nA))) (blE reprA (kA (vE 5) (nA))))) (bT (opE neO (callE c_write (kA (vE 5) (nA))) (vE 4)))) (retS (cE (.bl false))) (nS)
theorem loop2 {a b c d : Option D} (ti : Rdr.Tidy hc) : ∀ (ps : List (Str × D)), (∀ p ∈ ps, Fn p.1 p.2) → ∀ x4 x5, ∃ y4 y5, loopS (tupH 2 (consG (nmG 4) (consG (nmG 5) (nilG)))) body2 (ps.map fun p => .tup [.str p.1, p.2]) [a, b, c, d, x4, x5, none, none] hc = .nx [a, b, c, d, y4, y5, none, none] hc
  | [], _, x4, x5 => ⟨x4, x5, rfl⟩
  | (t, s) :: ps, h, x4, x5 => by
    have f : Fn t s := h (t, s) List.mem_cons_self
    obtain ⟨y4, y5, e⟩ := loop2 (a := a) (b := b) (c := c) (d := d) ti ps (fun e he => h e (List.mem_cons_of_mem _ he)) (some (.str t)) (some s)
    refine ⟨y4, y5, ?_⟩
    have tt := f.tup
    obtain ⟨y, r⟩ : ∃ y, reprD hc s = some (.str y) := f.fit.repr (by omega) (by omega) (fun n q => by rw [q] at tt; cases tt) (fun a b q => by rw [q] at tt; cases tt)
    have t1 : bT (opE neO (blE reprA (kA (callE c_law_found (kA (vE 4) (nA))) (nA))) (blE reprA (kA (vE 5) (nA)))) [a, b, c, d, some (.str t), some s, none, none] hc = .ok false hc := bO (opO (a := .str y) (b := .str y) (blO (k1 (a := s) (callO (k1 (a := .str t) rfl) (found_fn ti f))) r) (blO (k1 (a := s) rfl) r) (ne_same _))
    have t2 : bT (opE neO (callE c_write (kA (vE 5) (nA))) (vE 4)) [a, b, c, d, some (.str t), some s, none, none] hc = .ok false hc := bO (opO (a := .str t) (b := .str t) (callO (k1 (a := s) rfl) (write_fn f)) rfl (ne_same _))
    have e1 : body2 [a, b, c, d, some (.str t), some s, none, none] hc = .nx [a, b, c, d, some (.str t), some s, none, none] hc := ifN (orN t1 t2) rfl
    rw [List.map_cons, loopCons (ft := tupH 2 (consG (nmG 4) (consG (nmG 5) (nilG)))) (F := body2) (sl := [a, b, c, d, x4, x5, none, none]) rfl e1]
    exact e
/-! ### shorter ones -/
def body3 : Sl → Hc → RS := seqS (ifS (bT (opE neO (callE c_law_found (kA (slE (vE 4) (sO (vE 6)) nO) (nA))) (cE (.str "none")))) (retS (cE (.bl false))) (nS))
    (seqS (asgS 7 (callE c_law_found (kA (slE (vE 4) nO (sO (vE 6))) (nA))))
    (ifS (orT (bT (opE eqO (vE 7) (cE (.str "other")))) (andT (bT (opE neO (vE 7) (cE (.str "none")))) (bT (opE neO (callE c_write (kA (vE 7) (nA))) (slE (vE 4) nO (sO (vE 6))))))) (retS (cE (.bl false))) (nS)))
theorem cut_ac {x : Str} {lo hi : Option Int} (h : Ac x) : Ac (cutS x lo hi) := fun c hc => by
  unfold cutS at hc
  rw [List.toList_toArray] at hc
  exact h c (List.mem_of_mem_drop (List.mem_of_mem_take hc))
theorem turn3 {a b c d x5 x7 : Option D} {t : Str} {s : D} {k : Nat} (ti : Rdr.Tidy hc) (f : Fn t s) (hk : k + 1 < t.length) :
    ∃ y7, body3 [a, b, c, d, some (.str t), x5, some (.int ((k + 1 : Nat) : Int)), x7] hc = .nx [a, b, c, d, some (.str t), x5, some (.int ((k + 1 : Nat) : Int)), y7] hc := by
  have hl := f.len
  have hz : t.length ≤ sizeLine := by rw [sizeLine_eq]; omega
  have s1 : ∀ x7, slE (vE 4) (sO (vE 6)) nO [a, b, c, d, some (.str t), x5, some (.int ((k + 1 : Nat) : Int)), x7] hc = .ok (.str (cutS t (some ((k + 1 : Nat) : Int)) none)) hc := fun x7 => slO (d := .str t) (lo := some ((k + 1 : Nat) : Int)) (hi := none) (hc2 := hc) rfl rfl rfl (by
    show (if t.length ≤ sizeLine then some (D.str (cutS t (some ((k + 1 : Nat) : Int)) none)) else none) = _
    rw [if_pos hz])
  have s2 : ∀ x7, slE (vE 4) nO (sO (vE 6)) [a, b, c, d, some (.str t), x5, some (.int ((k + 1 : Nat) : Int)), x7] hc = .ok (.str (cutS t none (some ((k + 1 : Nat) : Int)))) hc := fun x7 => slO (d := .str t) (lo := none) (hi := some ((k + 1 : Nat) : Int)) (hc2 := hc) rfl rfl rfl (by
    show (if t.length ≤ sizeLine then some (D.str (cutS t none (some ((k + 1 : Nat) : Int)))) else none) = _
    rw [if_pos hz])
  have no : Rdr.readP (cutS t (some ((k + 1 : Nat) : Int)) none) = none := by
    have := List.all_eq_true.mp f.suf k (List.mem_range.mpr (by omega))
    exact Option.isNone_iff_eq_none.mp this
  have l1 : (cutS t (some ((k + 1 : Nat) : Int)) none).cps.toList.length ≤ 19000 := by
    have := cutS_length t (some ((k + 1 : Nat) : Int)) none
    rw [list_len]; omega
  have l2 : (cutS t none (some ((k + 1 : Nat) : Int))).cps.toList.length ≤ 19000 := by
    have := cutS_length t none (some ((k + 1 : Nat) : Int))
    rw [list_len]; omega
  have f1 : c_law_found [.str (cutS t (some ((k + 1 : Nat) : Int)) none)] hc = .ok (.str "none") hc := found_wr ti ⟨no, cut_ac f.ac, l1⟩
  have t1 : ∀ x7, bT (opE neO (callE c_law_found (kA (slE (vE 4) (sO (vE 6)) nO) (nA))) (cE (.str "none"))) [a, b, c, d, some (.str t), x5, some (.int ((k + 1 : Nat) : Int)), x7] hc = .ok false hc := fun x7 => bO (opO (a := .str "none") (b := .str "none") (callO (k1 (s1 x7)) f1) rfl (ne_same _))
  obtain ⟨P, hP⟩ : ∃ P, P = cutS t none (some ((k + 1 : Nat) : Int)) := ⟨_, rfl⟩
  rw [← hP] at s2 l2
  have acP : Ac P := by rw [hP]; exact cut_ac f.ac
  have rg := Rdr.read_gc ti l2 (ac_ok acP)
  cases q : Rdr.readP P with
  | none =>
    have f2 : c_law_found [.str P] hc = .ok (.str "none") hc := found_wr ti ⟨q, acP, l2⟩
    refine ⟨some (.str "none"), (seqN (ifN (t1 x7) rfl)).trans ((seqN (asgO (callO (k1 (s2 x7)) f2))).trans (ifN (orN (bO (opO (a := .str "none") (b := .str "other") rfl rfl (eq_not (by decide +kernel)))) (andF (bO (opO (a := .str "none") (b := .str "none") rfl rfl (ne_same _))))) rfl))⟩
  | some v =>
    rw [q] at rg
    have f2 : c_law_found [.str P] hc = .ok v hc := found_some (by rw [rd]; exact rg)
    obtain ⟨p1, p2, p3⟩ := Rdr.readP_ok l2 (ac_ok acP) q
    have vt : ∀ z, Rdr.isS z v = false := fun z => by
      unfold Rdr.stmB at p2
      split at p2
      · rfl
      · cases p2
    have e1 : eqO hc v (.str "other") = some (.bl false) := by
      unfold eqO
      rw [Rdr.eq_pd p1 (by omega) (by decide +kernel), vt]
      rfl
    have e2 : neO hc v (.str "none") = some (.bl true) := by
      unfold neO
      rw [Rdr.eq_pd p1 (by omega) (by decide +kernel), vt]
      rfl
    have w : c_write [v] hc = .ok (.str P) hc := by rw [wt, Rdr.write_pd p2, p3]
    exact ⟨some v, (seqN (ifN (t1 x7) rfl)).trans ((seqN (asgO (callO (k1 (s2 x7)) f2))).trans (ifN (orN (bO (opO (a := v) (b := .str "other") rfl rfl e1)) (andY (bO (opO (a := v) (b := .str "none") rfl rfl e2)) (bO (opO (a := .str P) (b := .str P) (callO (k1 (a := v) rfl) w) (s2 _) (ne_same _))))) rfl))⟩
theorem loop3 {a b c d x5 : Option D} {t : Str} {s : D} (ti : Rdr.Tidy hc) (f : Fn t s) : ∀ (ks : List Nat), (∀ k ∈ ks, k + 1 < t.length) → ∀ x6 x7, ∃ y6 y7, loopS (nmG 6) body3 (ks.map fun k => .int ((k + 1 : Nat) : Int)) [a, b, c, d, some (.str t), x5, x6, x7] hc = .nx [a, b, c, d, some (.str t), x5, y6, y7] hc
  | [], _, x6, x7 => ⟨x6, x7, rfl⟩
  | k :: ks, h, x6, x7 => by
    obtain ⟨y7, e1⟩ := turn3 (a := a) (b := b) (c := c) (d := d) (x5 := x5) (x7 := x7) ti f (h k List.mem_cons_self)
    obtain ⟨z6, z7, e⟩ := loop3 (a := a) (b := b) (c := c) (d := d) (x5 := x5) ti f ks (fun e he => h e (List.mem_cons_of_mem _ he)) (some (.int ((k + 1 : Nat) : Int))) y7
    refine ⟨z6, z7, ?_⟩
    rw [List.map_cons, loopCons (ft := nmG 6) (F := body3) (sl := [a, b, c, d, some (.str t), x5, x6, x7]) rfl e1]
    exact e
theorem gc_ok {cl : List D → Hc → Res D} {ds : List D} {v : D} {h' : Hc} (ti : Rdr.Tidy hc) (e : cl ds hc = .ok v h') (lv : lowD hc.next v = true) (hf : h'.m.filter (fun p => decide (p.1 < hc.next)) = hc.m) : gcR cl ds hc = .ok v hc := by
  have l : h'.low hc.next = true := by
    unfold Hc.low
    rw [hf, ← ti.fil]
    exact ti.low
  have c : h'.cut hc.next = hc := by
    unfold Hc.cut
    rw [hf]
  unfold gcR
  rw [e]
  simp only [lv, l, Bool.and_self, if_true, c]
end
theorem low_ints (n : Nat) : ∀ cs : List Int, lowDs n (cs.map D.int) = true
  | [] => by simp [lowDs]
  | c :: cs => by rw [List.map_cons, lowDs, low_ints n cs]; simp [lowD]
theorem tidy_pen {o : Ob} {n : Nat} (b : Bud 0 n (pen o)) : Rdr.Tidy (pen o) := by
  obtain ⟨B, ⟨cs, i, v, h, _⟩, _⟩ := b
  have e : some o = some (Ob.lst [.lst (cs.map D.int), .int i, .int v]) := h
  cases e
  refine ⟨rfl, ?_⟩
  show (lowO 1 (.lst [.lst (cs.map D.int), .int i, .int v]) && true) = true
  simp [lowO, lowDs, lowD, low_ints]
theorem shape {o : Ob} {hc' : Hc} (s : Same 0 (pen o) hc') : ∃ o', hc' = pen o' := by
  obtain ⟨h1, h2, h3⟩ := s
  obtain ⟨o', h⟩ := h3 [] o rfl (fun x hx => by cases hx)
  refine ⟨o', ?_⟩
  obtain ⟨nx, m⟩ := hc'
  have h1' : nx = 1 := h1
  have h' : m = [(0, o')] := h
  rw [h1', h']
  rfl
theorem low_strs (n : Nat) : ∀ xs : List Str, lowDs n (xs.map D.str) = true
  | [] => by simp [lowDs]
  | c :: cs => by rw [List.map_cons, lowDs, low_strs n cs]; simp [lowD]
theorem low_app (n : Nat) : ∀ xs ys : List D, lowDs n (xs ++ ys) = (lowDs n xs && lowDs n ys)
  | [], ys => by simp [lowDs]
  | x :: xs, ys => by rw [List.cons_append, lowDs, lowDs, low_app n xs ys, Bool.and_assoc]
theorem low_wrong : lowD 1 (.lst wrongL) = true := by
  rw [lowD, wrongL, low_app, low_strs, Bool.true_and]
  kernel_rfl
theorem low_fine : lowD 1 (.lst fineL) = true := by kernel_rfl
theorem gw_val {o : Ob} (ti : Rdr.Tidy (pen o)) : gcR c_law_wrong [] (pen o) = .ok (.lst wrongL) (pen o) := by
  obtain ⟨hw, ew, fw⟩ := wrong_val o
  exact gc_ok ti ew low_wrong fw
theorem gf_val {o : Ob} (ti : Rdr.Tidy (pen o)) : gcR c_law_fine [] (pen o) = .ok (.lst fineL) (pen o) := gc_ok ti (fine_val o) low_fine (fine_hp o)
theorem rg_of {n : Nat} (h : n ≤ 1000) : rgD [.int 1, .int (n : Int)] = some ((List.range (n - 1)).map fun k => .int ((k + 1 : Nat) : Int)) := by
  have cnd : (decide (-(2 ^ 62) ≤ (1 : Int)) && (decide ((1 : Int) < 2 ^ 62) && (decide (-(2 ^ 62) ≤ (n : Int)) && decide ((n : Int) < 2 ^ 62)))) = true := by
    have h1 : (2 : Int) ^ 62 = 4611686018427387904 := by decide
    rw [h1]
    simp only [Bool.and_eq_true, decide_eq_true_eq]
    omega
  have e : Bo.upTo 1 ((n : Int) - 1).toNat = (List.range (n - 1)).map fun k => .int ((k + 1 : Nat) : Int) := by
    unfold Bo.upTo
    rw [show ((n : Int) - 1).toNat = n - 1 by omega]
    refine List.map_congr_left fun k _ => ?_
    show D.int (1 + (k : Int)) = D.int ((k + 1 : Nat) : Int)
    rw [show (1 : Int) + (k : Int) = ((k + 1 : Nat) : Int) by omega]
  simp only [rgD, cnd, if_true, e]
theorem fine_at {r : Nat} (hr : r < 7) : ∃ t s, Fn t s ∧ atI fineL (r : Int) = some (.tup [.str t, s]) := by
  have hl : r < fineP.length := hr
  refine ⟨fineP[r].1, fineP[r].2, fines _ (List.getElem_mem hl), ?_⟩
  rw [Rdr.at_nat (d := .non) (l := fineL) (show r < fineL.length from by unfold fineL; rw [List.length_map]; exact hl)]
  simp only [fineL, List.getElem_map]
theorem rg2O {fs : Sl → Hc → Res (List D)} {sl : Sl} {hc hc1 : Hc} {ds xs : List D} (e1 : fs sl hc = .ok ds hc1) (e2 : rgD ds = some xs) : rg2E fs sl hc = .ok xs hc1 := by
  unfold rg2E
  rw [e1]
  simp only [Res.bind, e2]
theorem rg_val {hc : Hc} {a b c d x5 : Option D} {t : Str} (hl : t.length ≤ 300) : rg2E (kA (cE (.int 1)) (kA (blE lenD (kA (vE 4) (nA))) (nA))) [a, b, c, d, some (.str t), x5, none, none] hc = .ok ((List.range (t.length - 1)).map fun k => .int ((k + 1 : Nat) : Int)) hc := by
  have ln : blE lenD (kA (vE 4) (nA)) [a, b, c, d, some (.str t), x5, none, none] hc = .ok (.int (t.length : Int)) hc := blO (k1 (a := .str t) rfl) (by
    show (if t.length ≤ sizeLine then some (D.int (t.length : Int)) else none) = _
    rw [if_pos (by rw [sizeLine_eq]; omega)])
  have ka : kA (cE (.int 1)) (kA (blE lenD (kA (vE 4) (nA))) (nA)) [a, b, c, d, some (.str t), x5, none, none] hc = .ok [.int 1, .int (t.length : Int)] hc := kO (hc1 := hc) rfl (k1 ln)
  exact rg2O ka (rg_of (by omega))
theorem law_ok : ∀ ns : List Int, ns.length ≤ 63 → (∀ i ∈ ns, PySem.Builtin.Int.intBits i ≤ 1048576) → ∃ h, c_law [scr ns] hc0 = .ok (.bl true) h := fun ns _ _ => by
  obtain ⟨o, e0, b0⟩ := pen_made2 ns
  have ti := tidy_pen b0
  have t0 : asgS 1 (callE c_law_pen (kA (vE 0) (nA))) [some (scr ns), none, none, none, none, none, none, none] hc0 = .nx [some (scr ns), some (.loc 0), none, none, none, none, none, none] (pen o) := asgO (callO (k1 rfl) (by rw [pn]; exact e0))
  -- the wrong ones
  have gw := gw_val ti
  obtain ⟨y2, y3, l1⟩ := loop1 (hc := pen o) (a := some (scr ns)) (b := some (.loc 0)) wrongL (wg_all ti) none none
  have t1 : forS (nmG 2) (itE itA (callE (gcR c_law_wrong) nA)) body1 [some (scr ns), some (.loc 0), none, none, none, none, none, none] (pen o) = .nx [some (scr ns), some (.loc 0), y2, y3, none, none, none, none] (pen o) := forO (itO (d := .lst wrongL) (callO (as := []) (hc1 := pen o) rfl gw) rfl) l1
  -- the fine ones
  have gf := gf_val ti
  obtain ⟨y4, y5, l2⟩ := loop2 (hc := pen o) (a := some (scr ns)) (b := some (.loc 0)) (c := y2) (d := y3) ti fineP fines none none
  have t2 : forS (tupH 2 (consG (nmG 4) (consG (nmG 5) (nilG)))) (itE itA (callE (gcR c_law_fine) nA)) body2 [some (scr ns), some (.loc 0), y2, y3, none, none, none, none] (pen o) = .nx [some (scr ns), some (.loc 0), y2, y3, y4, y5, none, none] (pen o) := forO (itO (d := .lst fineL) (callO (as := []) (hc1 := pen o) rfl gf) rfl) l2
  -- the drawn one
  obtain ⟨r, hc1, hr, er, b1, s1⟩ := bud_nat (p := 0) (n := 999999999) (hc := pen o) 7 b0 (by omega) (by omega)
  obtain ⟨o1, rfl⟩ := shape s1
  have ti1 := tidy_pen b1
  obtain ⟨t, s, hf, ix⟩ := fine_at hr
  have t3 : asgS 4 (opE ixD (opE ixD (callE (gcR c_law_fine) nA) (callE c_law_draw (kA (vE 1) (kA (cE (.int 7)) (nA))))) (cE (.int 0))) [some (scr ns), some (.loc 0), y2, y3, y4, y5, none, none] (pen o) = .nx [some (scr ns), some (.loc 0), y2, y3, some (.str t), y5, none, none] (pen o1) :=
    asgO (opO (opO (a := .lst fineL) (b := .int (r : Int)) (callO (as := []) (hc1 := pen o) rfl gf) (callO (as := [.loc 0, .int 7]) (hc1 := pen o) rfl (by rw [dr]; exact er)) ix) (b := .int 0) rfl rfl)
  have hl := hf.len
  have rg := rg_val (hc := pen o1) (a := some (scr ns)) (b := some (.loc 0)) (c := y2) (d := y3) (x5 := y5) hl
  obtain ⟨y6, y7, l3⟩ := loop3 (hc := pen o1) (a := some (scr ns)) (b := some (.loc 0)) (c := y2) (d := y3) (x5 := y5) ti1 hf (List.range (t.length - 1)) (fun k hk => by have := List.mem_range.mp hk; omega) none none
  have t4 : forS (nmG 6) (rg2E (kA (cE (.int 1)) (kA (blE lenD (kA (vE 4) (nA))) (nA)))) body3 [some (scr ns), some (.loc 0), y2, y3, some (.str t), y5, none, none] (pen o1) = .nx [some (scr ns), some (.loc 0), y2, y3, some (.str t), y5, y6, y7] (pen o1) := forO rg l3
  exact ⟨pen o1, fnO rfl ((seqN t0).trans ((seqN t1).trans ((seqN t2).trans ((seqN t3).trans ((seqN t4).trans (retO rfl))))))⟩
end K13

set_option Elab.async false
set_option linter.all false
set_option maxRecDepth 100000
set_option maxHeartbeats 4000000
set_option autoImplicit false
/-! The head: printed by wip/tr2.py. -/
namespace K13
open PySem PySem.Spec PyProof.Rows L2 Bo
def D_is_value : He.DefD := ⟨("is_value", none), "is_value", "is_value", defArgs (top 8), defBody (top 8), defScope (top 8), [], []⟩
def D_is_name : He.DefD := ⟨("is_name", none), "is_name", "is_name", defArgs (top 9), defBody (top 9), defScope (top 9), [], []⟩
def D_is_values : He.DefD := ⟨("is_values", none), "is_values", "is_values", defArgs (top 10), defBody (top 10), defScope (top 10), [], []⟩
def D_is_column_form : He.DefD := ⟨("is_column_form", none), "is_column_form", "is_column_form", defArgs (top 16), defBody (top 16), defScope (top 16), [], []⟩
def D_is_call_form : He.DefD := ⟨("is_call_form", none), "is_call_form", "is_call_form", defArgs (top 17), defBody (top 17), defScope (top 17), [], []⟩
def D_is_told : He.DefD := ⟨("is_told", none), "is_told", "is_told", defArgs (top 18), defBody (top 18), defScope (top 18), [], []⟩
def D_is_source : He.DefD := ⟨("is_source", none), "is_source", "is_source", defArgs (top 19), defBody (top 19), defScope (top 19), [], []⟩
def D_is_condition : He.DefD := ⟨("is_condition", none), "is_condition", "is_condition", defArgs (top 20), defBody (top 20), defScope (top 20), [], []⟩
def D_is_row_of : He.DefD := ⟨("is_row_of", none), "is_row_of", "is_row_of", defArgs (top 21), defBody (top 21), defScope (top 21), [], []⟩
def D_is_statement : He.DefD := ⟨("is_statement", none), "is_statement", "is_statement", defArgs (top 22), defBody (top 22), defScope (top 22), [], []⟩
def D_write_column : He.DefD := ⟨("write_column", none), "write_column", "write_column", defArgs (top 25), defBody (top 25), defScope (top 25), [], []⟩
def D_write_term : He.DefD := ⟨("write_term", none), "write_term", "write_term", defArgs (top 26), defBody (top 26), defScope (top 26), [], []⟩
def D_write_told : He.DefD := ⟨("write_told", none), "write_told", "write_told", defArgs (top 27), defBody (top 27), defScope (top 27), [], []⟩
def D_write_source : He.DefD := ⟨("write_source", none), "write_source", "write_source", defArgs (top 28), defBody (top 28), defScope (top 28), [], []⟩
def D_write_values : He.DefD := ⟨("write_values", none), "write_values", "write_values", defArgs (top 29), defBody (top 29), defScope (top 29), [], []⟩
def D_write_condition : He.DefD := ⟨("write_condition", none), "write_condition", "write_condition", defArgs (top 30), defBody (top 30), defScope (top 30), [], []⟩
def D_write : He.DefD := ⟨("write", none), "write", "write", defArgs (top 31), defBody (top 31), defScope (top 31), [], []⟩
def D_is_letter : He.DefD := ⟨("is_letter", none), "is_letter", "is_letter", defArgs (top 32), defBody (top 32), defScope (top 32), [], []⟩
def D_words_in : He.DefD := ⟨("words_in", none), "words_in", "words_in", defArgs (top 33), defBody (top 33), defScope (top 33), [], []⟩
def D_Reader____init__ : He.DefD := ⟨("Reader", some "__init__"), "__init__", "Reader.__init__", defArgs (mthOf (top 34) 0), defBody (mthOf (top 34) 0), defScope (mthOf (top 34) 0), [], []⟩
def D_Reader__next_word : He.DefD := ⟨("Reader", some "next_word"), "next_word", "Reader.next_word", defArgs (mthOf (top 34) 1), defBody (mthOf (top 34) 1), defScope (mthOf (top 34) 1), [], []⟩
def D_Reader__take : He.DefD := ⟨("Reader", some "take"), "take", "Reader.take", defArgs (mthOf (top 34) 2), defBody (mthOf (top 34) 2), defScope (mthOf (top 34) 2), [], []⟩
def D_Reader__skip : He.DefD := ⟨("Reader", some "skip"), "skip", "Reader.skip", defArgs (mthOf (top 34) 3), defBody (mthOf (top 34) 3), defScope (mthOf (top 34) 3), [], []⟩
def D_Reader__comes : He.DefD := ⟨("Reader", some "comes"), "comes", "Reader.comes", defArgs (mthOf (top 34) 4), defBody (mthOf (top 34) 4), defScope (mthOf (top 34) 4), [], []⟩
def D_Reader__take_name : He.DefD := ⟨("Reader", some "take_name"), "take_name", "Reader.take_name", defArgs (mthOf (top 34) 5), defBody (mthOf (top 34) 5), defScope (mthOf (top 34) 5), [], []⟩
def D_Reader__take_value : He.DefD := ⟨("Reader", some "take_value"), "take_value", "Reader.take_value", defArgs (mthOf (top 34) 6), defBody (mthOf (top 34) 6), defScope (mthOf (top 34) 6), [], []⟩
def D_Reader__take_column : He.DefD := ⟨("Reader", some "take_column"), "take_column", "Reader.take_column", defArgs (mthOf (top 34) 7), defBody (mthOf (top 34) 7), defScope (mthOf (top 34) 7), [], []⟩
def D_Reader__is_label : He.DefD := ⟨("Reader", some "is_label"), "is_label", "Reader.is_label", defArgs (mthOf (top 34) 14), defBody (mthOf (top 34) 14), defScope (mthOf (top 34) 14), [], []⟩
def D_Reader__take_source : He.DefD := ⟨("Reader", some "take_source"), "take_source", "Reader.take_source", defArgs (mthOf (top 34) 13), defBody (mthOf (top 34) 13), defScope (mthOf (top 34) 13), [], []⟩
def D_Reader__take_part : He.DefD := ⟨("Reader", some "take_part"), "take_part", "Reader.take_part", defArgs (mthOf (top 34) 8), defBody (mthOf (top 34) 8), defScope (mthOf (top 34) 8), [], []⟩
def D_Reader__take_parts : He.DefD := ⟨("Reader", some "take_parts"), "take_parts", "Reader.take_parts", defArgs (mthOf (top 34) 9), defBody (mthOf (top 34) 9), defScope (mthOf (top 34) 9), [], []⟩
def D_Reader__take_term : He.DefD := ⟨("Reader", some "take_term"), "take_term", "Reader.take_term", defArgs (mthOf (top 34) 11), defBody (mthOf (top 34) 11), defScope (mthOf (top 34) 11), [], []⟩
def D_Reader__take_told : He.DefD := ⟨("Reader", some "take_told"), "take_told", "Reader.take_told", defArgs (mthOf (top 34) 12), defBody (mthOf (top 34) 12), defScope (mthOf (top 34) 12), [], []⟩
def D_Reader__take_values : He.DefD := ⟨("Reader", some "take_values"), "take_values", "Reader.take_values", defArgs (mthOf (top 34) 10), defBody (mthOf (top 34) 10), defScope (mthOf (top 34) 10), [], []⟩
def D_Reader__take_condition : He.DefD := ⟨("Reader", some "take_condition"), "take_condition", "Reader.take_condition", defArgs (mthOf (top 34) 15), defBody (mthOf (top 34) 15), defScope (mthOf (top 34) 15), [], []⟩
def D_Reader__take_statement : He.DefD := ⟨("Reader", some "take_statement"), "take_statement", "Reader.take_statement", defArgs (mthOf (top 34) 16), defBody (mthOf (top 34) 16), defScope (mthOf (top 34) 16), [], []⟩
def D_Reader__finish : He.DefD := ⟨("Reader", some "finish"), "finish", "Reader.finish", defArgs (mthOf (top 34) 17), defBody (mthOf (top 34) 17), defScope (mthOf (top 34) 17), [], []⟩
def D_read : He.DefD := ⟨("read", none), "read", "read", defArgs (top 35), defBody (top 35), defScope (top 35), [], []⟩
def D_law_pen : He.DefD := ⟨("_law_pen", none), "_law_pen", "_law_pen", defArgs (top 37), defBody (top 37), defScope (top 37), [], []⟩
def D_law_next : He.DefD := ⟨("_law_next", none), "_law_next", "_law_next", defArgs (top 38), defBody (top 38), defScope (top 38), [], []⟩
def D_law_draw : He.DefD := ⟨("_law_draw", none), "_law_draw", "_law_draw", defArgs (top 39), defBody (top 39), defScope (top 39), [], []⟩
def D_law_found : He.DefD := ⟨("_law_found", none), "_law_found", "_law_found", defArgs (top 40), defBody (top 40), defScope (top 40), [], []⟩
def D_law_wrong : He.DefD := ⟨("_law_wrong", none), "_law_wrong", "_law_wrong", defArgs (top 41), defBody (top 41), defScope (top 41), [], []⟩
def D_law_fine : He.DefD := ⟨("_law_fine", none), "_law_fine", "_law_fine", defArgs (top 42), defBody (top 42), defScope (top 42), [], []⟩
def D_law : He.DefD := ⟨("law", none), "law", "law", defArgs (top 43), defBody (top 43), defScope (top 43), [], []⟩
def fn : List He.DefD := [D_is_value, D_is_name, D_is_values, D_is_column_form, D_is_call_form, D_is_told, D_is_source, D_is_condition, D_is_row_of, D_is_statement, D_write_column, D_write_term, D_write_told, D_write_source, D_write_values, D_write_condition, D_write, D_is_letter, D_words_in, D_Reader____init__, D_Reader__next_word, D_Reader__take, D_Reader__skip, D_Reader__comes, D_Reader__take_name, D_Reader__take_value, D_Reader__take_column, D_Reader__is_label, D_Reader__take_source, D_Reader__take_part, D_Reader__take_parts, D_Reader__take_term, D_Reader__take_told, D_Reader__take_values, D_Reader__take_condition, D_Reader__take_statement, D_Reader__finish, D_read, D_law_pen, D_law_next, D_law_draw, D_law_found, D_law_wrong, D_law_fine, D_law]
def fa : List He.Fa := [(.glo "is_value" : He.Fa), (.glo "is_name" : He.Fa), (.glo "is_values" : He.Fa), (.glo "is_column_form" : He.Fa), (.glo "is_call_form" : He.Fa), (.glo "is_told" : He.Fa), (.glo "is_source" : He.Fa), (.glo "is_condition" : He.Fa), (.glo "is_row_of" : He.Fa), (.glo "is_statement" : He.Fa), (.glo "write_column" : He.Fa), (.glo "write_term" : He.Fa), (.glo "write_told" : He.Fa), (.glo "write_source" : He.Fa), (.glo "write_values" : He.Fa), (.glo "write_condition" : He.Fa), (.glo "write" : He.Fa), (.glo "is_letter" : He.Fa), (.glo "words_in" : He.Fa), (.mkr "Reader" : He.Fa), (.meth "Reader" "next_word" : He.Fa), (.meth "Reader" "take" : He.Fa), (.meth "Reader" "skip" : He.Fa), (.meth "Reader" "comes" : He.Fa), (.meth "Reader" "take_name" : He.Fa), (.meth "Reader" "take_value" : He.Fa), (.meth "Reader" "take_column" : He.Fa), (.meth "Reader" "is_label" : He.Fa), (.meth "Reader" "take_source" : He.Fa), (.meth "Reader" "take_part" : He.Fa), (.meth "Reader" "take_parts" : He.Fa), (.meth "Reader" "take_term" : He.Fa), (.meth "Reader" "take_told" : He.Fa), (.meth "Reader" "take_values" : He.Fa), (.meth "Reader" "take_condition" : He.Fa), (.meth "Reader" "take_statement" : He.Fa), (.meth "Reader" "finish" : He.Fa), (.glo "read" : He.Fa), (.glo "_law_pen" : He.Fa), (.glo "_law_next" : He.Fa), (.glo "_law_draw" : He.Fa), (.glo "_law_found" : He.Fa), (.glo "_law_wrong" : He.Fa), (.glo "_law_fine" : He.Fa), (.glo "law" : He.Fa), (.glo "Reader" : He.Fa), (.cls "Reader" : He.Fa), (.noat "Reader" "words" : He.Fa), (.noat "Reader" "place" : He.Fa), (.free "isinstance" : He.Fa), (.free "str" : He.Fa), (.free "len" : He.Fa), (.free "all" : He.Fa), (.free "tuple" : He.Fa), (.free "list" : He.Fa), (.free "sorted" : He.Fa), (.free "set" : He.Fa), (.free "bool" : He.Fa), (.free "int" : He.Fa), (.free "ValueError" : He.Fa), (.free "range" : He.Fa), (.free "repr" : He.Fa), (.int "MOST_LETTERS" 8 : He.Fa), (.str "LETTERS" "abcdefghijklmnopqrstuvwxyz" : He.Fa), (.glo "RESERVED" : He.Fa), (.int "MOST_VALUES" 8 : He.Fa), (.int "DEPTH" 3 : He.Fa), (.int "MOST_TOLD" 8 : He.Fa), (.int "MOST_SOURCES" 4 : He.Fa), (.int "MOST_CONDITIONS" 8 : He.Fa), (.str "DOUBT" "an object is no text of a statement" : He.Fa)]
def ex : List (PySem.W.Frag → Bool) := [fun K => He.tupB K "RESERVED" ((["select", "distinct", "as", "from", "where", "and", "in"] : List Str).map He.Dv.str), fun K => excB excN anc K]
def nums : List Str := [("BoundError" : Str), ("InvalidText" : Str), ("Reader" : Str), ("is_condition" : Str), ("is_told" : Str), ("is_source" : Str)]
def gx (K : PySem.W.Frag) : Gx := ⟨K, fun i => He.ga K (nums.getD i "")⟩
abbrev R : PySem.W.OpenRow := PySem.W.OpenLaw.row PySem.Challenge.rw_boundonce_k13_texts_typed
abbrev hk : PySem.W.Hook := hookX 6 fa fn ex
def ob (s : PySem.W.SharedT) : AlX := obsXG 6 fa fn ex (HandSHeadRun.getT s)
theorem ob_eq (s : PySem.W.SharedT) : ob s = hk.obs s.abs := obsXG_eq (HandSHeadRun.getT_eq s)
def loose : List Str := [("BoundError" : Str), ("InvalidText" : Str), ("LETTERS" : Str), ("MOST_LETTERS" : Str), ("MOST_VALUES" : Str), ("RESERVED" : Str), ("is_value" : Str), ("is_name" : Str), ("is_values" : Str), ("MOST_TOLD" : Str), ("MOST_SOURCES" : Str), ("MOST_CONDITIONS" : Str), ("DEPTH" : Str), ("is_column_form" : Str), ("is_call_form" : Str), ("is_told" : Str), ("is_source" : Str), ("is_condition" : Str), ("is_row_of" : Str), ("is_statement" : Str), ("DOUBT" : Str), ("write_column" : Str), ("write_term" : Str), ("write_told" : Str), ("write_source" : Str), ("write_values" : Str), ("write_condition" : Str), ("write" : Str), ("is_letter" : Str), ("words_in" : Str), ("Reader" : Str), ("read" : Str), ("_law_pen" : Str), ("_law_next" : Str), ("_law_draw" : Str), ("_law_found" : Str), ("_law_wrong" : Str), ("_law_fine" : Str)]
theorem run (w : World) : HandSHeadRun.RunEq R (PySem.W.view R.prog [43]) hk ob 8000 loose w := by
  intro os
  kernel_rfl
theorem facts {K : PySem.W.Frag} {h : Heap} {mg : Str → Option Value} (X : K.In h) (G : h.Ns mainGlobals mg) (c : SaysX fa fn ex K) : Mg (gx K) K mg where
  f_is_value := let ⟨fd, F⟩ := c.d.def_ 0 (d := D_is_value) rfl; ⟨_, fd, F, He.glo_ok X G (c.d.fact 0 (f := .glo "is_value") rfl)⟩
  f_is_name := let ⟨fd, F⟩ := c.d.def_ 1 (d := D_is_name) rfl; ⟨_, fd, F, He.glo_ok X G (c.d.fact 1 (f := .glo "is_name") rfl)⟩
  f_is_values := let ⟨fd, F⟩ := c.d.def_ 2 (d := D_is_values) rfl; ⟨_, fd, F, He.glo_ok X G (c.d.fact 2 (f := .glo "is_values") rfl)⟩
  f_is_column_form := let ⟨fd, F⟩ := c.d.def_ 3 (d := D_is_column_form) rfl; ⟨_, fd, F, He.glo_ok X G (c.d.fact 3 (f := .glo "is_column_form") rfl)⟩
  f_is_call_form := let ⟨fd, F⟩ := c.d.def_ 4 (d := D_is_call_form) rfl; ⟨_, fd, F, He.glo_ok X G (c.d.fact 4 (f := .glo "is_call_form") rfl)⟩
  f_is_told := let ⟨fd, F⟩ := c.d.def_ 5 (d := D_is_told) rfl; ⟨_, fd, F, He.glo_ok X G (c.d.fact 5 (f := .glo "is_told") rfl)⟩
  f_is_source := let ⟨fd, F⟩ := c.d.def_ 6 (d := D_is_source) rfl; ⟨_, fd, F, He.glo_ok X G (c.d.fact 6 (f := .glo "is_source") rfl)⟩
  f_is_condition := let ⟨fd, F⟩ := c.d.def_ 7 (d := D_is_condition) rfl; ⟨_, fd, F, He.glo_ok X G (c.d.fact 7 (f := .glo "is_condition") rfl)⟩
  f_is_row_of := let ⟨fd, F⟩ := c.d.def_ 8 (d := D_is_row_of) rfl; ⟨_, fd, F, He.glo_ok X G (c.d.fact 8 (f := .glo "is_row_of") rfl)⟩
  f_is_statement := let ⟨fd, F⟩ := c.d.def_ 9 (d := D_is_statement) rfl; ⟨_, fd, F, He.glo_ok X G (c.d.fact 9 (f := .glo "is_statement") rfl)⟩
  f_write_column := let ⟨fd, F⟩ := c.d.def_ 10 (d := D_write_column) rfl; ⟨_, fd, F, He.glo_ok X G (c.d.fact 10 (f := .glo "write_column") rfl)⟩
  f_write_term := let ⟨fd, F⟩ := c.d.def_ 11 (d := D_write_term) rfl; ⟨_, fd, F, He.glo_ok X G (c.d.fact 11 (f := .glo "write_term") rfl)⟩
  f_write_told := let ⟨fd, F⟩ := c.d.def_ 12 (d := D_write_told) rfl; ⟨_, fd, F, He.glo_ok X G (c.d.fact 12 (f := .glo "write_told") rfl)⟩
  f_write_source := let ⟨fd, F⟩ := c.d.def_ 13 (d := D_write_source) rfl; ⟨_, fd, F, He.glo_ok X G (c.d.fact 13 (f := .glo "write_source") rfl)⟩
  f_write_values := let ⟨fd, F⟩ := c.d.def_ 14 (d := D_write_values) rfl; ⟨_, fd, F, He.glo_ok X G (c.d.fact 14 (f := .glo "write_values") rfl)⟩
  f_write_condition := let ⟨fd, F⟩ := c.d.def_ 15 (d := D_write_condition) rfl; ⟨_, fd, F, He.glo_ok X G (c.d.fact 15 (f := .glo "write_condition") rfl)⟩
  f_write := let ⟨fd, F⟩ := c.d.def_ 16 (d := D_write) rfl; ⟨_, fd, F, He.glo_ok X G (c.d.fact 16 (f := .glo "write") rfl)⟩
  f_is_letter := let ⟨fd, F⟩ := c.d.def_ 17 (d := D_is_letter) rfl; ⟨_, fd, F, He.glo_ok X G (c.d.fact 17 (f := .glo "is_letter") rfl)⟩
  f_words_in := let ⟨fd, F⟩ := c.d.def_ 18 (d := D_words_in) rfl; ⟨_, fd, F, He.glo_ok X G (c.d.fact 18 (f := .glo "words_in") rfl)⟩
  f_Reader____init__ := let ⟨fd, F⟩ := c.d.def_ 19 (d := D_Reader____init__) rfl; ⟨_, fd, F, He.mkr_ok (c.d.fact 19 (f := .mkr "Reader") rfl), He.glo_ok X G (c.d.fact 45 (f := .glo "Reader") rfl)⟩
  f_Reader__next_word := let ⟨fd, F⟩ := c.d.def_ 20 (d := D_Reader__next_word) rfl; ⟨_, fd, F, He.cls_ok (c.d.fact 46 (f := .cls "Reader") rfl), He.meth_ok (c.d.fact 20 (f := .meth "Reader" "next_word") rfl)⟩
  f_Reader__take := let ⟨fd, F⟩ := c.d.def_ 21 (d := D_Reader__take) rfl; ⟨_, fd, F, He.cls_ok (c.d.fact 46 (f := .cls "Reader") rfl), He.meth_ok (c.d.fact 21 (f := .meth "Reader" "take") rfl)⟩
  f_Reader__skip := let ⟨fd, F⟩ := c.d.def_ 22 (d := D_Reader__skip) rfl; ⟨_, fd, F, He.cls_ok (c.d.fact 46 (f := .cls "Reader") rfl), He.meth_ok (c.d.fact 22 (f := .meth "Reader" "skip") rfl)⟩
  f_Reader__comes := let ⟨fd, F⟩ := c.d.def_ 23 (d := D_Reader__comes) rfl; ⟨_, fd, F, He.cls_ok (c.d.fact 46 (f := .cls "Reader") rfl), He.meth_ok (c.d.fact 23 (f := .meth "Reader" "comes") rfl)⟩
  f_Reader__take_name := let ⟨fd, F⟩ := c.d.def_ 24 (d := D_Reader__take_name) rfl; ⟨_, fd, F, He.cls_ok (c.d.fact 46 (f := .cls "Reader") rfl), He.meth_ok (c.d.fact 24 (f := .meth "Reader" "take_name") rfl)⟩
  f_Reader__take_value := let ⟨fd, F⟩ := c.d.def_ 25 (d := D_Reader__take_value) rfl; ⟨_, fd, F, He.cls_ok (c.d.fact 46 (f := .cls "Reader") rfl), He.meth_ok (c.d.fact 25 (f := .meth "Reader" "take_value") rfl)⟩
  f_Reader__take_column := let ⟨fd, F⟩ := c.d.def_ 26 (d := D_Reader__take_column) rfl; ⟨_, fd, F, He.cls_ok (c.d.fact 46 (f := .cls "Reader") rfl), He.meth_ok (c.d.fact 26 (f := .meth "Reader" "take_column") rfl)⟩
  f_Reader__is_label := let ⟨fd, F⟩ := c.d.def_ 27 (d := D_Reader__is_label) rfl; ⟨_, fd, F, He.cls_ok (c.d.fact 46 (f := .cls "Reader") rfl), He.meth_ok (c.d.fact 27 (f := .meth "Reader" "is_label") rfl)⟩
  f_Reader__take_source := let ⟨fd, F⟩ := c.d.def_ 28 (d := D_Reader__take_source) rfl; ⟨_, fd, F, He.cls_ok (c.d.fact 46 (f := .cls "Reader") rfl), He.meth_ok (c.d.fact 28 (f := .meth "Reader" "take_source") rfl)⟩
  f_Reader__take_part := let ⟨fd, F⟩ := c.d.def_ 29 (d := D_Reader__take_part) rfl; ⟨_, fd, F, He.cls_ok (c.d.fact 46 (f := .cls "Reader") rfl), He.meth_ok (c.d.fact 29 (f := .meth "Reader" "take_part") rfl)⟩
  f_Reader__take_parts := let ⟨fd, F⟩ := c.d.def_ 30 (d := D_Reader__take_parts) rfl; ⟨_, fd, F, He.cls_ok (c.d.fact 46 (f := .cls "Reader") rfl), He.meth_ok (c.d.fact 30 (f := .meth "Reader" "take_parts") rfl)⟩
  f_Reader__take_term := let ⟨fd, F⟩ := c.d.def_ 31 (d := D_Reader__take_term) rfl; ⟨_, fd, F, He.cls_ok (c.d.fact 46 (f := .cls "Reader") rfl), He.meth_ok (c.d.fact 31 (f := .meth "Reader" "take_term") rfl)⟩
  f_Reader__take_told := let ⟨fd, F⟩ := c.d.def_ 32 (d := D_Reader__take_told) rfl; ⟨_, fd, F, He.cls_ok (c.d.fact 46 (f := .cls "Reader") rfl), He.meth_ok (c.d.fact 32 (f := .meth "Reader" "take_told") rfl)⟩
  f_Reader__take_values := let ⟨fd, F⟩ := c.d.def_ 33 (d := D_Reader__take_values) rfl; ⟨_, fd, F, He.cls_ok (c.d.fact 46 (f := .cls "Reader") rfl), He.meth_ok (c.d.fact 33 (f := .meth "Reader" "take_values") rfl)⟩
  f_Reader__take_condition := let ⟨fd, F⟩ := c.d.def_ 34 (d := D_Reader__take_condition) rfl; ⟨_, fd, F, He.cls_ok (c.d.fact 46 (f := .cls "Reader") rfl), He.meth_ok (c.d.fact 34 (f := .meth "Reader" "take_condition") rfl)⟩
  f_Reader__take_statement := let ⟨fd, F⟩ := c.d.def_ 35 (d := D_Reader__take_statement) rfl; ⟨_, fd, F, He.cls_ok (c.d.fact 46 (f := .cls "Reader") rfl), He.meth_ok (c.d.fact 35 (f := .meth "Reader" "take_statement") rfl)⟩
  f_Reader__finish := let ⟨fd, F⟩ := c.d.def_ 36 (d := D_Reader__finish) rfl; ⟨_, fd, F, He.cls_ok (c.d.fact 46 (f := .cls "Reader") rfl), He.meth_ok (c.d.fact 36 (f := .meth "Reader" "finish") rfl)⟩
  f_read := let ⟨fd, F⟩ := c.d.def_ 37 (d := D_read) rfl; ⟨_, fd, F, He.glo_ok X G (c.d.fact 37 (f := .glo "read") rfl)⟩
  f_law_pen := let ⟨fd, F⟩ := c.d.def_ 38 (d := D_law_pen) rfl; ⟨_, fd, F, He.glo_ok X G (c.d.fact 38 (f := .glo "_law_pen") rfl)⟩
  f_law_next := let ⟨fd, F⟩ := c.d.def_ 39 (d := D_law_next) rfl; ⟨_, fd, F, He.glo_ok X G (c.d.fact 39 (f := .glo "_law_next") rfl)⟩
  f_law_draw := let ⟨fd, F⟩ := c.d.def_ 40 (d := D_law_draw) rfl; ⟨_, fd, F, He.glo_ok X G (c.d.fact 40 (f := .glo "_law_draw") rfl)⟩
  f_law_found := let ⟨fd, F⟩ := c.d.def_ 41 (d := D_law_found) rfl; ⟨_, fd, F, He.glo_ok X G (c.d.fact 41 (f := .glo "_law_found") rfl)⟩
  f_law_wrong := let ⟨fd, F⟩ := c.d.def_ 42 (d := D_law_wrong) rfl; ⟨_, fd, F, He.glo_ok X G (c.d.fact 42 (f := .glo "_law_wrong") rfl)⟩
  f_law_fine := let ⟨fd, F⟩ := c.d.def_ 43 (d := D_law_fine) rfl; ⟨_, fd, F, He.glo_ok X G (c.d.fact 43 (f := .glo "_law_fine") rfl)⟩
  f_law := let ⟨fd, F⟩ := c.d.def_ 44 (d := D_law) rfl; ⟨_, fd, F, He.glo_ok X G (c.d.fact 44 (f := .glo "law") rfl)⟩
  cl_Reader := He.cls_ok (c.d.fact 46 (f := .cls "Reader") rfl)
  na_Reader_words := He.noat_ok (c.d.fact 47 (f := .noat "Reader" "words") rfl)
  na_Reader_place := He.noat_ok (c.d.fact 48 (f := .noat "Reader" "place") rfl)
  v_is_condition := He.glo_ok X G (c.d.fact 7 (f := .glo "is_condition") rfl)
  v_is_told := He.glo_ok X G (c.d.fact 5 (f := .glo "is_told") rfl)
  v_is_source := He.glo_ok X G (c.d.fact 6 (f := .glo "is_source") rfl)
  ex := excB_ok X G (fun c x h => by
    have e : nums.getD c "" = x := by
      have h2 : nums[c]? = some x := by
        rw [show nums = excN ++ nums.drop 2 from rfl, List.getElem?_append_left (List.getElem?_eq_some_iff.mp h).1]
        exact h
      rw [List.getD_eq_getElem?_getD, h2]
      rfl
    show He.ga K (nums.getD c "") = _
    rw [e]) (c.more 1 rfl)
  n_isinstance := He.free_ok X G (c.d.fact 49 (f := .free "isinstance") rfl)
  n_str := He.free_ok X G (c.d.fact 50 (f := .free "str") rfl)
  n_len := He.free_ok X G (c.d.fact 51 (f := .free "len") rfl)
  n_all := He.free_ok X G (c.d.fact 52 (f := .free "all") rfl)
  n_tuple := He.free_ok X G (c.d.fact 53 (f := .free "tuple") rfl)
  n_list := He.free_ok X G (c.d.fact 54 (f := .free "list") rfl)
  n_sorted := He.free_ok X G (c.d.fact 55 (f := .free "sorted") rfl)
  n_set := He.free_ok X G (c.d.fact 56 (f := .free "set") rfl)
  n_bool := He.free_ok X G (c.d.fact 57 (f := .free "bool") rfl)
  n_int := He.free_ok X G (c.d.fact 58 (f := .free "int") rfl)
  n_ValueError := He.free_ok X G (c.d.fact 59 (f := .free "ValueError") rfl)
  n_range := He.free_ok X G (c.d.fact 60 (f := .free "range") rfl)
  n_repr := He.free_ok X G (c.d.fact 61 (f := .free "repr") rfl)
  g_MOST_LETTERS := He.int_ok X G (c.d.fact 62 (f := .int "MOST_LETTERS" 8) rfl)
  g_LETTERS := He.str_ok X G (c.d.fact 63 (f := .str "LETTERS" "abcdefghijklmnopqrstuvwxyz") rfl)
  g_RESERVED := tupS_ok X G (c.d.fact 64 (f := .glo "RESERVED") rfl) (c.more 0 rfl)
  g_MOST_VALUES := He.int_ok X G (c.d.fact 65 (f := .int "MOST_VALUES" 8) rfl)
  g_DEPTH := He.int_ok X G (c.d.fact 66 (f := .int "DEPTH" 3) rfl)
  g_MOST_TOLD := He.int_ok X G (c.d.fact 67 (f := .int "MOST_TOLD" 8) rfl)
  g_MOST_SOURCES := He.int_ok X G (c.d.fact 68 (f := .int "MOST_SOURCES" 4) rfl)
  g_MOST_CONDITIONS := He.int_ok X G (c.d.fact 69 (f := .int "MOST_CONDITIONS" 8) rfl)
  g_DOUBT := He.str_ok X G (c.d.fact 70 (f := .str "DOUBT" "an object is no text of a statement") rfl)
end K13
open PySem PySem.W PySem.Calls PyProof.Rows
theorem PySem.Challenge.cw_boundonce_k13_texts_typed_holds : PySem.Challenge.rw_boundonce_k13_texts_typed.Holds := by
  w_on; o_law
  refine HandSHeadRun.head_any (r := OpenLaw.row PySem.Challenge.rw_boundonce_k13_texts_typed) (q := view (OpenLaw.row PySem.Challenge.rw_boundonce_k13_texts_typed).prog [43]) (H := K13.hk) (ob := K13.ob) (M := 8000) (loose := K13.loose) (d := HandSHeadRun.topDef (OpenLaw.row PySem.Challenge.rw_boundonce_k13_texts_typed).prog 43) (kwd := []) K13.ob_eq
    (by kernel_rfl) (fun s => by kernel_rfl) K13.run (by kernel_rfl) (by kernel_rfl) (by kernel_rfl) (by rfl) (by first | assumption | decide +kernel) (by decide +kernel) ⟨rfl, rfl, rfl, rfl, rfl, by decide +kernel⟩ ?hw ?hc
  case hw => w_witness2
  case hc =>
    refine Bo.walk_I (l := PySem.Challenge.rw_boundonce_k13_texts_typed) (n := 63) (k := 31) (x := "_law_script") (cl := K13.c_law) rfl (by decide) (by kernel_rfl) ⟨rfl, by decide, by decide⟩ ?F K13.law_ok
    intro w mg fa h Y G hmg0
    obtain ⟨K, KX, c⟩ := Y
    have hmg : mg ("law" : PySem.Str) = some (.ref fa) := hmg0
    have M := K13.facts KX G c
    obtain ⟨f, fd, F, hf⟩ := M.f_law
    have e := hmg.symm.trans hf
    cases e
    have b := L2.FunD.bindsA (ps := ["_law_script"]) F fun _ _ _ _ _ _ us hl => match us, hl with | [_], _ => rfl
    exact ⟨K13.gx K, fd, KX, fun s v => b s [v] rfl, fun base _ _ => K13.ok_law F M rfl⟩
