import PyProof.Rows.All
import Wide.All
import OpenK.AllK
import Wide.FinOn
import HandS.ForMost
import HandS.Exc
import HandS.TryOnly
import HandS.ExcOwn
import HandS.WordsExc
import HandS.Defaults
import HandS.Style
import HandS.Deep
import HandS.TupAny
import HandS.IsInst
import HandS.Conv
import HandS.Walk
import HandS.Ends
import HandS.HeadEnd
import HandS.Set
import HandS.SetKeys
import HandS.Strs
import KE.SortData
import HandS.Text
import HandS.EndBits
import HandS.Head0
import HandS.Head1
import HandS.Head2
import HandS.HeadHook1
import HandS.HeadHook2
import PyProof.ReprLen
import HandS.FStr
import PyProof.RulesMatch
import PyProof.RulesMatchSeq
import PyProof.Rows.MatchSeqLen
import KE.KUnpack
import PyProof.StrOps2
import HandS.Star
import HandS.RaiseMore
import HandS.ExcValue
import HandS.ExcIs
import HandS.DictComp
import HandS.TupMul
import HandS.CallLocal
import PySem.Challenge.RW_boundonce_k25_errors_apart
set_option Elab.async false
set_option linter.all false
set_option maxRecDepth 100000
set_option maxHeartbeats 2000000
set_option autoImplicit false
/-! Bo1: data, the small heap, what they are of HandS's values and heaps. -/
namespace Bo
open PySem PySem.Spec L2

/-- a value: data as a tree (frozen lists, tuples, dicts), a mutable object by its number, a thing of the module's top by its number -/
inductive D where
  | non | bl (b : Bool) | int (i : Int) | str (x : Str)
  | tup (xs : List D) | lst (xs : List D) | kl (xs : List D) | dct (ks : List Key) (xs : List D)
  | loc (n : Nat) | fn (i : Nat) | ty (n : String) | ex (c : Nat)
  deriving Inhabited

/-- a mutable object -/
inductive Ob where
  | lst (xs : List D)
  | ins (c : Nat) (fs : List (Str × D))
  deriving Inhabited

/-- the small heap -/
structure Hc where
  next : Nat
  m : List (Nat × Ob)

def Hc.get (h : Hc) (n : Nat) : Option Ob := h.m.lookup n
def setM (n : Nat) (o : Ob) : List (Nat × Ob) → List (Nat × Ob)
  | [] => []
  | p :: r => if p.1 = n then (n, o) :: r else p :: setM n o r
def Hc.set (h : Hc) (n : Nat) (o : Ob) : Hc := ⟨h.next, setM n o h.m⟩
def Hc.new (h : Hc) (o : Ob) : Hc := ⟨h.next + 1, (h.next, o) :: h.m⟩
def Hc.del (h : Hc) (n : Nat) : Hc := ⟨h.next, h.m.filter fun p => !(p.1 == n)⟩

theorem lookup_setM {n k : Nat} {o : Ob} : ∀ {m : List (Nat × Ob)}, (setM n o m).lookup k = if k = n then (m.lookup n).map (fun _ => o) else m.lookup k
  | [] => by simp [setM]
  | (a, b) :: r => by
    unfold setM
    by_cases h : a = n
    · subst h
      simp only [if_pos rfl, List.lookup]
      by_cases hk : k = a
      · subst hk; simp
      · have e1 : (k == a) = false := by simpa using hk
        simp [hk, List.lookup, e1]
    · have ih := lookup_setM (n := n) (k := k) (o := o) (m := r)
      simp only [if_neg h, List.lookup]
      by_cases hk : k = n
      · subst hk
        have e1 : (k == a) = false := by simpa using Ne.symm h
        rw [e1]
        simpa using ih
      · by_cases hka : k = a
        · subst hka; simp [hk]
        · have e1 : (k == a) = false := by simpa using hka
          rw [e1]
          simpa [hk] using ih
theorem Hc.get_set {h : Hc} {n k : Nat} {o : Ob} : (h.set n o).get k = if k = n then (h.get n).map (fun _ => o) else h.get k := lookup_setM
theorem Hc.get_new {h : Hc} {k : Nat} {o : Ob} : (h.new o).get k = if k = h.next then some o else h.get k := by
  unfold Hc.new Hc.get
  by_cases hk : k = h.next
  · subst hk; simp [List.lookup]
  · have e1 : (k == h.next) = false := by simpa using hk
    simp [List.lookup, e1, hk]
theorem Hc.get_del {h : Hc} {n k : Nat} {o : Ob} (e : (h.del n).get k = some o) : h.get k = some o ∧ k ≠ n := by
  unfold Hc.del Hc.get at *
  generalize h.m = m at e ⊢
  dsimp only at e
  induction m with
  | nil => simp at e
  | cons p r ih =>
    obtain ⟨a, b⟩ := p
    by_cases ha : a = n
    · subst ha
      have : ((a, b) :: r).filter (fun p => !(p.1 == a)) = r.filter (fun p => !(p.1 == a)) := by simp
      rw [this] at e
      obtain ⟨h1, h2⟩ := ih e
      refine ⟨?_, h2⟩
      have e1 : (k == a) = false := by simpa using h2
      simp [List.lookup, e1, h1]
    · have : ((a, b) :: r).filter (fun p => !(p.1 == n)) = (a, b) :: r.filter (fun p => !(p.1 == n)) := by simp [ha]
      rw [this] at e
      by_cases hk : k = a
      · subst hk
        simp [List.lookup] at e
        subst e
        exact ⟨by simp [List.lookup], ha⟩
      · have e1 : (k == a) = false := by simpa using hk
        simp only [List.lookup, e1] at e ⊢
        exact ih e

/-- what a piece of the program comes to -/
inductive Res (α : Type) where
  | ok (a : α) (h : Hc) | exc (c : Nat) (h : Hc) | bad
def Res.bind {α β : Type} (r : Res α) (k : α → Hc → Res β) : Res β := match r with
  | .ok a h => k a h
  | .exc c h => .exc c h
  | .bad => .bad

/-- the text's facts: the written part, the module's names, the addresses of the top's things -/
structure Gx where
  K : PySem.W.Frag
  fa : Nat → Addr

/-- an exception object of the class cls at a (raised or not) -/
def ExA (cls : Value) (a : Addr) : HO := .ext fun h => ∃ (oe : Obj) (vs : Array Value), h.get? a = some oe ∧ Zc cls none oe ∧ oe.data = .fields vs
/-- where frozen things and numbered objects stand -/
structure Fz where
  F : Hp
  ρ : Nat → Option Addr

mutual
inductive RelD (g : Gx) (z : Fz) : D → V → Prop
  | non : RelD g z .non .non
  | bl (b : Bool) : RelD g z (.bl b) (.bl b)
  | int (i : Int) : RelD g z (.int i) (.int i)
  | str (x : Str) : RelD g z (.str x) (.str x)
  | lst {a : Addr} {xs : List V} {ds : List D} : Rd z.F a (.lst xs) → RelDs g z ds xs → RelD g z (.lst ds) (.ref a)
  | kl {a : Addr} {xs : List V} {ds : List D} : SqL g.K z.F a xs → RelDs g z ds xs → RelD g z (.kl ds) (.ref a)
  | tup {a : Addr} {xs : List V} {ds : List D} : SqT g.K z.F a xs → RelDs g z ds xs → RelD g z (.tup ds) (.ref a)
  | dct {a : Addr} {ks : List Key} {xs : List V} {ds : List D} : z.F a = some (.dK (ks.zip xs)) → ks.length = ds.length → RelDs g z ds xs → RelD g z (.dct ks ds) (.ref a)
  | loc {n : Nat} {a : Addr} : z.ρ n = some a → RelD g z (.loc n) (.ref a)
  | fn (i : Nat) : RelD g z (.fn i) (.ref (g.fa i))
  | ty (n : String) : RelD g z (.ty n) (.ty n)
  | ex {c : Nat} {a : Addr} : z.F a = some (ExA (.ref (g.fa c)) a) → RelD g z (.ex c) (.ref a)
inductive RelDs (g : Gx) (z : Fz) : List D → List V → Prop
  | nil : RelDs g z [] []
  | cons {d : D} {ds : List D} {v : V} {vs : List V} : RelD g z d v → RelDs g z ds vs → RelDs g z (d :: ds) (v :: vs)
end

def FLe (z z' : Fz) : Prop := (∀ a o, z.F a = some o → z'.F a = some o) ∧ ∀ n a, z.ρ n = some a → z'.ρ n = some a
theorem FLe.refl (z : Fz) : FLe z z := ⟨fun _ _ h => h, fun _ _ h => h⟩
theorem FLe.trans {a b c : Fz} (x : FLe a b) (y : FLe b c) : FLe a c := ⟨fun a o h => y.1 a o (x.1 a o h), fun n a h => y.2 n a (x.2 n a h)⟩
theorem Rd.mono {H H' : Hp} {a : Addr} {u : HO} (k : ∀ a o, H a = some o → H' a = some o) (h : Rd H a u) : Rd H' a u := by
  rcases h with h | ⟨o, h⟩
  · exact .inl (k _ _ h)
  · exact .inr ⟨o, k _ _ h⟩
theorem SqL.mono {K : PySem.W.Frag} {H H' : Hp} {a : Addr} {xs : List V} (k : ∀ a o, H a = some o → H' a = some o) (h : SqL K H a xs) : SqL K H' a xs := by
  rcases h with (h | ⟨o, h⟩) | h
  · exact .inl (.inl (k _ _ h))
  · exact .inl (.inr ⟨o, k _ _ h⟩)
  · exact .inr h
theorem SqT.mono {K : PySem.W.Frag} {H H' : Hp} {a : Addr} {xs : List V} (k : ∀ a o, H a = some o → H' a = some o) (h : SqT K H a xs) : SqT K H' a xs := by
  rcases h with (h | ⟨o, h⟩) | h
  · exact .inl (.inl (k _ _ h))
  · exact .inl (.inr ⟨o, k _ _ h⟩)
  · exact .inr h
mutual
theorem RelD.mono {g : Gx} {z z' : Fz} (l : FLe z z') : ∀ {d : D} {v : V}, RelD g z d v → RelD g z' d v
  | _, _, .non => .non
  | _, _, .bl b => .bl b
  | _, _, .int b => .int b
  | _, _, .str b => .str b
  | _, _, .lst h r => .lst (Rd.mono l.1 h) (RelDs.mono l r)
  | _, _, .kl h r => .kl (SqL.mono l.1 h) (RelDs.mono l r)
  | _, _, .tup h r => .tup (SqT.mono l.1 h) (RelDs.mono l r)
  | _, _, .dct h e r => .dct (l.1 _ _ h) e (RelDs.mono l r)
  | _, _, .loc h => .loc (l.2 _ _ h)
  | _, _, .fn i => .fn i
  | _, _, .ty i => .ty i
  | _, _, .ex h => .ex (l.1 _ _ h)
theorem RelDs.mono {g : Gx} {z z' : Fz} (l : FLe z z') : ∀ {d : List D} {v : List V}, RelDs g z d v → RelDs g z' d v
  | _, _, .nil => .nil
  | _, _, .cons h r => .cons (RelD.mono l h) (RelDs.mono l r)
end
theorem RelDs.length {g : Gx} {z : Fz} : ∀ {ds : List D} {vs : List V}, RelDs g z ds vs → ds.length = vs.length
  | _, _, .nil => rfl
  | _, _, .cons _ r => by simp [RelDs.length r]
theorem RelDs.append {g : Gx} {z : Fz} : ∀ {ds es : List D} {vs ws : List V}, RelDs g z ds vs → RelDs g z es ws → RelDs g z (ds ++ es) (vs ++ ws)
  | _, _, _, _, .nil, s => s
  | _, _, _, _, .cons r t, s => .cons r (RelDs.append t s)
theorem RelDs.get {g : Gx} {z : Fz} : ∀ {ds : List D} {vs : List V} {i : Nat} {d : D}, RelDs g z ds vs → ds[i]? = some d → ∃ v, vs[i]? = some v ∧ RelD g z d v
  | _, _, _, _, .nil, e => by simp at e
  | _, _, 0, _, .cons r _, e => by simp at e; subst e; exact ⟨_, rfl, r⟩
  | _, _, i + 1, d, .cons _ t, e => by
    obtain ⟨u, h1, h2⟩ := RelDs.get (i := i) (d := d) t (by simpa using e)
    exact ⟨u, by simpa using h1, h2⟩
theorem RelDs.getV {g : Gx} {z : Fz} : ∀ {ds : List D} {vs : List V} {i : Nat} {v : V}, RelDs g z ds vs → vs[i]? = some v → ∃ d, ds[i]? = some d ∧ RelD g z d v
  | _, _, _, _, .nil, e => by simp at e
  | _, _, 0, _, .cons r _, e => by simp at e; subst e; exact ⟨_, rfl, r⟩
  | _, _, i + 1, d, .cons _ t, e => by
    obtain ⟨u, h1, h2⟩ := RelDs.getV (i := i) (v := d) t (by simpa using e)
    exact ⟨u, by simpa using h1, h2⟩
theorem RelDs.set {g : Gx} {z : Fz} {d : D} {v : V} (r : RelD g z d v) : ∀ {ds : List D} {vs : List V} (i : Nat), RelDs g z ds vs → RelDs g z (ds.set i d) (vs.set i v)
  | _, _, _, .nil => .nil
  | _, _, 0, .cons _ t => .cons r t
  | _, _, i + 1, .cons q t => .cons q (RelDs.set r i t)
theorem RelDs.take {g : Gx} {z : Fz} : ∀ {ds : List D} {vs : List V} (n : Nat), RelDs g z ds vs → RelDs g z (ds.take n) (vs.take n)
  | _, _, 0, _ => .nil
  | _, _, _ + 1, .nil => .nil
  | _, _, n + 1, .cons r t => .cons r (RelDs.take n t)
theorem RelDs.drop {g : Gx} {z : Fz} : ∀ {ds : List D} {vs : List V} (n : Nat), RelDs g z ds vs → RelDs g z (ds.drop n) (vs.drop n)
  | _, _, 0, r => r
  | _, _, _ + 1, .nil => .nil
  | _, _, n + 1, .cons _ t => RelDs.drop n t

/-- what a numbered object is in the abstract heap -/
def ObR (g : Gx) (z : Fz) (H : Hp) (a : Addr) : Ob → Prop
  | .lst ds => ∃ xs, H a = some (.lst xs) ∧ RelDs g z ds xs
  | .ins c fs => ∃ dx vs, H a = some (.ins (g.fa c) dx (fs.map (·.1) |>.zip vs)) ∧ RelDs g z (fs.map (·.2)) vs

structure StR (g : Gx) (z : Fz) (H : Hp) (hc : Hc) : Prop where
  sub : ∀ a o, z.F a = some o → H a = some o
  inj : ∀ n m a, z.ρ n = some a → z.ρ m = some a → n = m
  live : ∀ n a, z.ρ n = some a → ∃ o, H a = some o
  fresh : ∀ n, hc.next ≤ n → z.ρ n = none
  obj : ∀ n o, hc.get n = some o → ∃ a, z.ρ n = some a ∧ z.F a = none ∧ ObR g z H a o

/-- a step of the state -/
structure Ext (z : Fz) (H : Hp) (z' : Fz) (H' : Hp) : Prop where
  le : FLe z z'
  keep : ∀ a o, H a = some o → (∀ n, z.ρ n ≠ some a) → H' a = some o
  alive : ∀ a o, H a = some o → ∃ o', H' a = some o'
  fNew : ∀ a o, z'.F a = some o → z.F a = none → H a = none ∨ ∃ n, z.ρ n = some a
  rNew : ∀ n a, z'.ρ n = some a → z.ρ n = none → H a = none
theorem Ext.refl (z : Fz) (H : Hp) : Ext z H z H := ⟨.refl z, fun _ _ h _ => h, fun _ o h => ⟨o, h⟩, fun a o h n => (by rw [h] at n; cases n), fun n a h k => (by rw [h] at k; cases k)⟩
theorem Ext.trans {z z1 z2 : Fz} {H H1 H2 : Hp} (x : Ext z H z1 H1) (y : Ext z1 H1 z2 H2) : Ext z H z2 H2 where
  le := x.le.trans y.le
  keep := fun a o h n => y.keep a o (x.keep a o h n) fun m q => by
    cases e : z.ρ m with
    | none => have := x.rNew m a q e; rw [h] at this; cases this
    | some b => have := x.le.2 m b e; rw [q] at this; cases this; exact n m e
  fNew := fun a o h n => by
    cases e : z1.F a with
    | some u => exact x.fNew a u e n
    | none =>
      rcases y.fNew a o h e with q | ⟨m, q⟩
      · cases e2 : H a with
        | none => exact .inl rfl
        | some u =>
          refine .inr (Classical.byContradiction fun c => ?_)
          have := x.keep a u e2 fun m hm => c ⟨m, hm⟩
          rw [q] at this; cases this
      · cases e2 : z.ρ m with
        | none => exact .inl (x.rNew m a q e2)
        | some b => have := x.le.2 m b e2; rw [q] at this; cases this; exact .inr ⟨m, e2⟩
  alive := fun a o h => by
    obtain ⟨o1, h1⟩ := x.alive a o h
    exact y.alive a o1 h1
  rNew := fun n a h k => by
    cases e : z1.ρ n with
    | some b =>
      have := y.le.2 n b e; rw [h] at this; cases this
      exact x.rNew n _ e k
    | none =>
      have q := y.rNew n a h e
      cases e2 : H a with
      | none => rfl
      | some u =>
        obtain ⟨o1, h1⟩ := x.alive a u e2
        rw [q] at h1; cases h1

/-- the slots: unknown, or a value -/
abbrev Sl := List (Option D)
structure Sv (g : Gx) (z : Fz) (sl : Sl) (σ : St) : Prop where
  val : ∀ (i : Nat) (d : D), sl[i]? = some (some d) → ∃ v, σ[i]? = some (some v) ∧ RelD g z d v
  len : sl.length = σ.length
theorem Sv.ext {g : Gx} {z z' : Fz} {H H' : Hp} {sl : Sl} {σ : St} (h : Sv g z sl σ) (x : Ext z H z' H') : Sv g z' sl σ where
  val := fun i d e => let ⟨v, h1, h2⟩ := h.val i d e; ⟨v, h1, h2.mono x.le⟩
  len := h.len
theorem Sv.set {g : Gx} {z : Fz} {sl : Sl} {σ : St} {d : D} {v : V} (h : Sv g z sl σ) (r : RelD g z d v) (i : Nat) : Sv g z (sl.set i (some d)) (σ.set i (some v)) where
  val := fun j e q => by
    by_cases hj : i = j
    · subst hj
      by_cases hl : i < sl.length
      · rw [List.getElem?_set_self hl] at q
        cases q
        exact ⟨v, List.getElem?_set_self (by rw [← h.len]; exact hl), r⟩
      · rw [List.getElem?_eq_none (by simpa using hl)] at q; cases q
    · rw [List.getElem?_set_ne hj] at q
      rw [List.getElem?_set_ne hj]
      exact h.val j e q
  len := by simp [h.len]

/-! ### outcomes -/
def OutE (g : Gx) (W : WX) (z : Fz) (H : Hp) (σ : St) (r : Res D) (Q : VK) : Prop := match r with
  | .ok d hc => ∀ z' H' v, Ext z H z' H' → StR g z' H' hc → RelD g z' d v → Q v H'
  | .exc c hc => ∀ z' H', Ext z H z' H' → StR g z' H' hc → W (.ref (g.fa c)) none σ H'
  | .bad => False
def OutA (g : Gx) (W : WX) (z : Fz) (H : Hp) (σ : St) (r : Res (List D)) (Q : List V → Hp → Prop) : Prop := match r with
  | .ok ds hc => ∀ z' H' vs, Ext z H z' H' → StR g z' H' hc → RelDs g z' ds vs → Q vs H'
  | .exc c hc => ∀ z' H', Ext z H z' H' → StR g z' H' hc → W (.ref (g.fa c)) none σ H'
  | .bad => False
def OutT (g : Gx) (W : WX) (z : Fz) (H : Hp) (σ : St) (r : Res Bool) (Q : Bool → Hp → Prop) : Prop := match r with
  | .ok b hc => ∀ z' H', Ext z H z' H' → StR g z' H' hc → Q b H'
  | .exc c hc => ∀ z' H', Ext z H z' H' → StR g z' H' hc → W (.ref (g.fa c)) none σ H'
  | .bad => False
section
variable {g : Gx} {W : WX} {z z1 : Fz} {H H1 : Hp} {σ : St}
theorem OutE.ext {r : Res D} {Q : VK} (h : OutE g W z H σ r Q) (x : Ext z H z1 H1) : OutE g W z1 H1 σ r Q := by
  cases r with
  | ok d hc => exact fun z' H' v y s r => h z' H' v (x.trans y) s r
  | exc c hc => exact fun z' H' y s => h z' H' (x.trans y) s
  | bad => exact h
theorem OutA.ext {r : Res (List D)} {Q : List V → Hp → Prop} (h : OutA g W z H σ r Q) (x : Ext z H z1 H1) : OutA g W z1 H1 σ r Q := by
  cases r with
  | ok d hc => exact fun z' H' v y s r => h z' H' v (x.trans y) s r
  | exc c hc => exact fun z' H' y s => h z' H' (x.trans y) s
  | bad => exact h
theorem OutT.ext {r : Res Bool} {Q : Bool → Hp → Prop} (h : OutT g W z H σ r Q) (x : Ext z H z1 H1) : OutT g W z1 H1 σ r Q := by
  cases r with
  | ok d hc => exact fun z' H' y s => h z' H' (x.trans y) s
  | exc c hc => exact fun z' H' y s => h z' H' (x.trans y) s
  | bad => exact h
end
/-! ### readings -/
def tI (g : Gx) (W : WX) (f : Sl → Hc → Res D) : TE := fun σ H Q => ∃ z sl hc, Sv g z sl σ ∧ StR g z H hc ∧ OutE g W z H σ (f sl hc) Q
def aI (g : Gx) (W : WX) (f : Sl → Hc → Res (List D)) : TA := fun σ H Q => ∃ z sl hc, Sv g z sl σ ∧ StR g z H hc ∧ OutA g W z H σ (f sl hc) Q
def bI (g : Gx) (W : WX) (f : Sl → Hc → Res Bool) : TT := fun σ H Q => ∃ z sl hc, Sv g z sl σ ∧ StR g z H hc ∧ OutT g W z H σ (f sl hc) Q
section
variable {g : Gx} {W : WX} {z : Fz} {H : Hp} {σ : St} {sl : Sl} {hc : Hc}
/-- an expression is read, then the rest -/
theorem OutE.thenE {f : Sl → Hc → Res D} {k : D → Hc → Res D} {Q : VK} (hs : Sv g z sl σ) (st : StR g z H hc) (h : OutE g W z H σ ((f sl hc).bind k) Q) :
    tI g W f σ H fun v H1 => ∃ z1 d hc1, Ext z H z1 H1 ∧ Sv g z1 sl σ ∧ StR g z1 H1 hc1 ∧ RelD g z1 d v ∧ OutE g W z1 H1 σ (k d hc1) Q := by
  refine ⟨z, sl, hc, hs, st, ?_⟩
  cases e : f sl hc with
  | ok d hc1 => rw [e] at h; exact fun z' H' v x s r => ⟨z', d, hc1, x, hs.ext x, s, r, OutE.ext h x⟩
  | exc c hc1 => rw [e] at h; exact h
  | bad => rw [e] at h; exact h
theorem OutA.thenE {f : Sl → Hc → Res D} {k : D → Hc → Res (List D)} {Q : List V → Hp → Prop} (hs : Sv g z sl σ) (st : StR g z H hc) (h : OutA g W z H σ ((f sl hc).bind k) Q) :
    tI g W f σ H fun v H1 => ∃ z1 d hc1, Ext z H z1 H1 ∧ Sv g z1 sl σ ∧ StR g z1 H1 hc1 ∧ RelD g z1 d v ∧ OutA g W z1 H1 σ (k d hc1) Q := by
  refine ⟨z, sl, hc, hs, st, ?_⟩
  cases e : f sl hc with
  | ok d hc1 => rw [e] at h; exact fun z' H' v x s r => ⟨z', d, hc1, x, hs.ext x, s, r, OutA.ext h x⟩
  | exc c hc1 => rw [e] at h; exact h
  | bad => rw [e] at h; exact h
theorem OutT.thenE {f : Sl → Hc → Res D} {k : D → Hc → Res Bool} {Q : Bool → Hp → Prop} (hs : Sv g z sl σ) (st : StR g z H hc) (h : OutT g W z H σ ((f sl hc).bind k) Q) :
    tI g W f σ H fun v H1 => ∃ z1 d hc1, Ext z H z1 H1 ∧ Sv g z1 sl σ ∧ StR g z1 H1 hc1 ∧ RelD g z1 d v ∧ OutT g W z1 H1 σ (k d hc1) Q := by
  refine ⟨z, sl, hc, hs, st, ?_⟩
  cases e : f sl hc with
  | ok d hc1 => rw [e] at h; exact fun z' H' v x s r => ⟨z', d, hc1, x, hs.ext x, s, r, OutT.ext h x⟩
  | exc c hc1 => rw [e] at h; exact h
  | bad => rw [e] at h; exact h
theorem OutE.thenA {f : Sl → Hc → Res (List D)} {k : List D → Hc → Res D} {Q : VK} (hs : Sv g z sl σ) (st : StR g z H hc) (h : OutE g W z H σ ((f sl hc).bind k) Q) :
    aI g W f σ H fun v H1 => ∃ z1 d hc1, Ext z H z1 H1 ∧ Sv g z1 sl σ ∧ StR g z1 H1 hc1 ∧ RelDs g z1 d v ∧ OutE g W z1 H1 σ (k d hc1) Q := by
  refine ⟨z, sl, hc, hs, st, ?_⟩
  cases e : f sl hc with
  | ok d hc1 => rw [e] at h; exact fun z' H' v x s r => ⟨z', d, hc1, x, hs.ext x, s, r, OutE.ext h x⟩
  | exc c hc1 => rw [e] at h; exact h
  | bad => rw [e] at h; exact h
theorem OutA.thenA {f : Sl → Hc → Res (List D)} {k : List D → Hc → Res (List D)} {Q : List V → Hp → Prop} (hs : Sv g z sl σ) (st : StR g z H hc) (h : OutA g W z H σ ((f sl hc).bind k) Q) :
    aI g W f σ H fun v H1 => ∃ z1 d hc1, Ext z H z1 H1 ∧ Sv g z1 sl σ ∧ StR g z1 H1 hc1 ∧ RelDs g z1 d v ∧ OutA g W z1 H1 σ (k d hc1) Q := by
  refine ⟨z, sl, hc, hs, st, ?_⟩
  cases e : f sl hc with
  | ok d hc1 => rw [e] at h; exact fun z' H' v x s r => ⟨z', d, hc1, x, hs.ext x, s, r, OutA.ext h x⟩
  | exc c hc1 => rw [e] at h; exact h
  | bad => rw [e] at h; exact h
theorem OutE.thenT {f : Sl → Hc → Res Bool} {k : Bool → Hc → Res D} {Q : VK} (hs : Sv g z sl σ) (st : StR g z H hc) (h : OutE g W z H σ ((f sl hc).bind k) Q) :
    bI g W f σ H fun b H1 => ∃ z1 hc1, Ext z H z1 H1 ∧ Sv g z1 sl σ ∧ StR g z1 H1 hc1 ∧ OutE g W z1 H1 σ (k b hc1) Q := by
  refine ⟨z, sl, hc, hs, st, ?_⟩
  cases e : f sl hc with
  | ok d hc1 => rw [e] at h; exact fun z' H' x s => ⟨z', hc1, x, hs.ext x, s, OutE.ext h x⟩
  | exc c hc1 => rw [e] at h; exact h
  | bad => rw [e] at h; exact h
theorem OutT.thenT {f : Sl → Hc → Res Bool} {k : Bool → Hc → Res Bool} {Q : Bool → Hp → Prop} (hs : Sv g z sl σ) (st : StR g z H hc) (h : OutT g W z H σ ((f sl hc).bind k) Q) :
    bI g W f σ H fun b H1 => ∃ z1 hc1, Ext z H z1 H1 ∧ Sv g z1 sl σ ∧ StR g z1 H1 hc1 ∧ OutT g W z1 H1 σ (k b hc1) Q := by
  refine ⟨z, sl, hc, hs, st, ?_⟩
  cases e : f sl hc with
  | ok d hc1 => rw [e] at h; exact fun z' H' x s => ⟨z', hc1, x, hs.ext x, s, OutT.ext h x⟩
  | exc c hc1 => rw [e] at h; exact h
  | bad => rw [e] at h; exact h
end
theorem tI.mono {g : Gx} {W : WX} {f : Sl → Hc → Res D} {σ : St} {H : Hp} {Q Q' : VK} (h : tI g W f σ H Q) (k : ∀ v H, Q v H → Q' v H) : tI g W f σ H Q' := by
  obtain ⟨z, sl, hc, hs, st, h⟩ := h
  refine ⟨z, sl, hc, hs, st, ?_⟩
  revert h
  cases f sl hc with
  | ok d h => exact fun o z' H' v x s r => k _ _ (o z' H' v x s r)
  | exc c h => exact fun o => o
  | bad => exact fun o => o
theorem aI.mono {g : Gx} {W : WX} {f : Sl → Hc → Res (List D)} {σ : St} {H : Hp} {Q Q' : List V → Hp → Prop} (h : aI g W f σ H Q) (k : ∀ v H, Q v H → Q' v H) : aI g W f σ H Q' := by
  obtain ⟨z, sl, hc, hs, st, h⟩ := h
  refine ⟨z, sl, hc, hs, st, ?_⟩
  revert h
  cases f sl hc with
  | ok d h => exact fun o z' H' v x s r => k _ _ (o z' H' v x s r)
  | exc c h => exact fun o => o
  | bad => exact fun o => o
theorem bI.mono {g : Gx} {W : WX} {f : Sl → Hc → Res Bool} {σ : St} {H : Hp} {Q Q' : Bool → Hp → Prop} (h : bI g W f σ H Q) (k : ∀ v H, Q v H → Q' v H) : bI g W f σ H Q' := by
  obtain ⟨z, sl, hc, hs, st, h⟩ := h
  refine ⟨z, sl, hc, hs, st, ?_⟩
  revert h
  cases f sl hc with
  | ok d h => exact fun o z' H' x s => k _ _ (o z' H' x s)
  | exc c h => exact fun o => o
  | bad => exact fun o => o
/-- a reading that is implied -/
theorem pe_imp {X : Cx} {e : Expr} {t u : TE} (h : PE X e t) (k : ∀ σ H Q, u σ H Q → t σ H Q) : PE X e u := ⟨fun pins s σ H Q I hu => h.run pins s σ H Q I (k σ H Q hu)⟩
theorem pt_imp {X : Cx} {e : Expr} {t u : TT} (h : PT X e t) (k : ∀ σ H Q, u σ H Q → t σ H Q) : PT X e u := ⟨fun pins s σ H Q I hu => h.run pins s σ H Q I (k σ H Q hu)⟩
theorem pw_imp {X : Cx} {e : Expr} {t u : TT} (h : PW X e t) (k : ∀ σ H Q, u σ H Q → t σ H Q) : PW X e u := ⟨fun wh pins s σ H Q I hu => h.run wh pins s σ H Q I (k σ H Q hu)⟩
theorem pa_imp {X : Cx} {e : List Expr} {t u : TA} (h : PA X e t) (k : ∀ σ H Q, u σ H Q → t σ H Q) : PA X e u := ⟨fun pos pins s σ H Q I hu => h.run pos pins s σ H Q I (k σ H Q hu)⟩
theorem ps_imp {X : Cx} {e : Stmt} {t u : TS} (h : PS X e t) (k : ∀ E σ H, u E σ H → t E σ H) : PS X e u := ⟨fun pins s σ H E I hu => h.run pins s σ H E I (k E σ H hu)⟩
theorem pss_imp {X : Cx} {e : List Stmt} {t u : TS} (h : PSs X e t) (k : ∀ E σ H, u E σ H → t E σ H) : PSs X e u := ⟨fun pins s σ H E I hu => h.run pins s σ H E I (k E σ H hu)⟩
end Bo

set_option Elab.async false
set_option linter.all false
set_option maxRecDepth 100000
set_option maxHeartbeats 2000000
set_option autoImplicit false
/-! Bo2: expressions. -/
namespace Bo
open PySem PySem.Spec L2

/-- where one stands: the context, the text's facts, what is wished of exceptions, the room -/
structure Ct (X : Cx) (g : Gx) (W : WX) (k : Nat) : Prop where
  hK : X.K = g.K
  tk : Takes X W
  calm : X.calm = true
  room : Room k X.A
  guards : X.A.guards = some []

section
variable {g : Gx} {z : Fz} {H : Hp} {hc : Hc}
/-- a new frozen thing -/
theorem StR.alloc (st : StR g z H hc) {p : Addr} {o : HO} (hp : H p = none) : Ext z H ⟨upd z.F p o, z.ρ⟩ (upd H p o) ∧ StR g ⟨upd z.F p o, z.ρ⟩ (upd H p o) hc := by
  have hF : z.F p = none := by
    cases e : z.F p with
    | none => rfl
    | some u => have := st.sub p u e; rw [hp] at this; cases this
  have hne : ∀ a u, H a = some u → a ≠ p := fun a u e q => by subst q; rw [hp] at e; cases e
  have le : FLe z ⟨upd z.F p o, z.ρ⟩ := ⟨fun a u e => by
    show upd z.F p o a = some u
    rw [upd_ne (hne a u (st.sub a u e))]; exact e, fun _ _ e => e⟩
  refine ⟨⟨le, fun a u e _ => ?_, fun a u e => ?_, fun a u e n => ?_, fun n a e k => ?_⟩, ⟨fun a u e => ?_, st.inj, fun n a e => ?_, st.fresh, fun n u e => ?_⟩⟩
  · rw [upd_ne (hne a u e)]; exact e
  · exact ⟨u, by rw [upd_ne (hne a u e)]; exact e⟩
  · by_cases h : a = p
    · subst h; exact .inl hp
    · have e' : upd z.F p o a = some u := e
      rw [upd_ne h, n] at e'; cases e'
  · have e' : z.ρ n = some a := e
    rw [k] at e'; cases e'
  · by_cases h : a = p
    · subst h
      have e' : upd z.F a o a = some u := e
      rw [upd_same] at e' ⊢; exact e'
    · have e' : upd z.F p o a = some u := e
      rw [upd_ne h] at e' ⊢; exact st.sub a u e'
  · obtain ⟨u, hu⟩ := st.live n a e
    exact ⟨u, by rw [upd_ne (hne a u hu)]; exact hu⟩
  · obtain ⟨a, h1, h2, h3⟩ := st.obj n u e
    refine ⟨a, h1, ?_, ?_⟩
    · obtain ⟨u', hu'⟩ := st.live n a h1
      show upd z.F p o a = none
      rw [upd_ne (hne a u' hu')]; exact h2
    · cases u with
      | lst ds =>
        obtain ⟨xs, e1, e2⟩ := h3
        exact ⟨xs, by rw [upd_ne (hne a _ e1)]; exact e1, e2.mono le⟩
      | ins c fs =>
        obtain ⟨dx, vs, e1, e2⟩ := h3
        exact ⟨dx, vs, by rw [upd_ne (hne a _ e1)]; exact e1, e2.mono le⟩
theorem StR.newTup (st : StR g z H hc) {p : Addr} {xs : List V} {ds : List D} (hp : H p = none) (r : RelDs g z ds xs) :
    ∃ z', Ext z H z' (upd H p (.tup xs)) ∧ StR g z' (upd H p (.tup xs)) hc ∧ RelD g z' (.tup ds) (.ref p) := by
  obtain ⟨x, s⟩ := st.alloc (o := .tup xs) hp
  exact ⟨_, x, s, .tup (SqT.of (show upd z.F p _ p = _ from upd_same)) (r.mono x.le)⟩
theorem StR.newLst (st : StR g z H hc) {p : Addr} {xs : List V} {ds : List D} (hp : H p = none) (r : RelDs g z ds xs) :
    ∃ z', Ext z H z' (upd H p (.lst xs)) ∧ StR g z' (upd H p (.lst xs)) hc ∧ RelD g z' (.lst ds) (.ref p) := by
  obtain ⟨x, s⟩ := st.alloc (o := .lst xs) hp
  exact ⟨_, x, s, .lst (Rd.of (show upd z.F p _ p = _ from upd_same)) (r.mono x.le)⟩
/-- a list that is read: frozen or numbered -/
def Hc.lst? (hc : Hc) : D → Option (List D)
  | .lst ds => some ds
  | .kl ds => some ds
  | .loc n => match hc.get n with
    | some (.lst ds) => some ds
    | _ => none
  | _ => none
theorem StR.list (st : StR g z H hc) {d : D} {ds : List D} {v : V} (e : hc.lst? d = some ds) (r : RelD g z d v) : ∃ a xs, v = .ref a ∧ SqL g.K H a xs ∧ RelDs g z ds xs := by
  cases r with
  | lst h q =>
    cases e
    exact ⟨_, _, rfl, .inl (Rd.mono st.sub h), q⟩
  | kl h q =>
    cases e
    exact ⟨_, _, rfl, SqL.mono st.sub h, q⟩
  | loc h =>
    rename_i n a
    unfold Hc.lst? at e
    cases q : hc.get n with
    | none => simp [q] at e
    | some o =>
      cases o with
      | lst es =>
        simp [q] at e
        subst e
        obtain ⟨b, h1, h2, xs, h3, h4⟩ := st.obj n _ q
        rw [h] at h1; cases h1
        exact ⟨_, _, rfl, SqL.of h3, h4⟩
      | ins c fs => simp [q] at e
  | _ => cases e
theorem StR.tuple (st : StR g z H hc) {ds : List D} {v : V} (r : RelD g z (.tup ds) v) : ∃ a xs, v = .ref a ∧ SqT g.K H a xs ∧ RelDs g z ds xs := by
  cases r with
  | tup h q => exact ⟨_, _, rfl, SqT.mono st.sub h, q⟩
end

/-! ### operators that are pure: they read the small heap and give a value -/
def lift (r : Option D) (hc : Hc) : Res D := match r with
  | some d => .ok d hc
  | none => .bad
theorem OutE.lift {g : Gx} {W : WX} {z : Fz} {H : Hp} {σ : St} {r : Option D} {hc : Hc} {Q : VK} (h : OutE g W z H σ (Bo.lift r hc) Q) : ∃ d, r = some d ∧ ∀ z' H' v, Ext z H z' H' → StR g z' H' hc → RelD g z' d v → Q v H' := by
  cases r with
  | none => exact h.elim
  | some d => exact ⟨d, rfl, h⟩
/-- two values -/
def rP (g : Gx) (op : Hc → D → D → Option D) : R2 := fun x y H Q => ∃ z hc d e r, StR g z H hc ∧ RelD g z d x ∧ RelD g z e y ∧ op hc d e = some r ∧ ∀ z' H' v, Ext z H z' H' → StR g z' H' hc → RelD g z' r v → Q v H'
/-- arguments -/
def rA (g : Gx) (op : Hc → List D → Option D) : List V → Hp → VK → Prop := fun xs H Q => ∃ z hc ds r, StR g z H hc ∧ RelDs g z ds xs ∧ op hc ds = some r ∧ ∀ z' H' v, Ext z H z' H' → StR g z' H' hc → RelD g z' r v → Q v H'
/-- one value -/
def rU1 (g : Gx) (op : Hc → D → Option D) : V → Hp → VK → Prop := fun x H Q => ∃ z hc d r, StR g z H hc ∧ RelD g z d x ∧ op hc d = some r ∧ ∀ z' H' v, Ext z H z' H' → StR g z' H' hc → RelD g z' r v → Q v H'

def opE (op : Hc → D → D → Option D) (fa fb : Sl → Hc → Res D) : Sl → Hc → Res D := fun sl hc => (fa sl hc).bind fun d hc1 => (fb sl hc1).bind fun e hc2 => lift (op hc2 d e) hc2
def unE (op : Hc → D → Option D) (fa : Sl → Hc → Res D) : Sl → Hc → Res D := fun sl hc => (fa sl hc).bind fun d hc1 => lift (op hc1 d) hc1
def blE (op : Hc → List D → Option D) (fa : Sl → Hc → Res (List D)) : Sl → Hc → Res D := fun sl hc => (fa sl hc).bind fun d hc1 => lift (op hc1 d) hc1

section
variable {X : Cx} {g : Gx} {W : WX} {a b c : Expr} {fa fb fc : Sl → Hc → Res D} {ft fu : Sl → Hc → Res Bool} {es : List Expr} {fs : Sl → Hc → Res (List D)} {pos : Pos} {op op2 : Hc → D → D → Option D}
theorem read_op {σ : St} {H : Hp} {Q : VK} (h : tI g W (opE op fa fb) σ H Q) : tOp (rP g op) (tI g W fa) (tI g W fb) σ H Q := by
  obtain ⟨z, sl, hc, hs, st, h⟩ := h
  refine tI.mono (OutE.thenE (f := fa) hs st h) fun v H1 ⟨z1, d1, hc1, x1, hs1, st1, r1, o1⟩ => ?_
  refine tI.mono (OutE.thenE (f := fb) hs1 st1 o1) fun w H2 ⟨z2, d2, hc2, x2, hs2, st2, r2, o2⟩ => ?_
  obtain ⟨rr, er, hq⟩ := o2.lift
  exact ⟨z2, hc2, d1, d2, rr, st2, r1.mono x2.le, r2, er, hq⟩
/-! ### names, constants -/
def vE (i : Nat) : Sl → Hc → Res D := fun sl hc => match sl[i]? with
  | some (some d) => .ok d hc
  | _ => .bad
def cE (d : D) : Sl → Hc → Res D := fun _ hc => .ok d hc
theorem e_var (i : Nat) {x : Str} (hN : X.N[i]? = some x := by rfl) (hv : Vis X.env.scope x := by first | exact Or.inl rfl | exact Or.inr (Or.inl rfl) | exact Or.inr (Or.inr rfl)) (hd : (x == ("__debug__" : Str)) = false := by decide)
    (hcd : (x == ("__classdict__" : Str)) = false := by decide) : PE X (.Name x pos) (tI g W (vE i)) := by
  refine pe_imp (pe_var hN hv hd hcd) fun σ H Q ⟨z, sl, hc, hs, st, h⟩ => ?_
  unfold vE at h
  cases e : sl[i]? with
  | none => rw [e] at h; exact h.elim
  | some o =>
    cases o with
    | none => rw [e] at h; exact h.elim
    | some d =>
      rw [e] at h
      obtain ⟨v, h1, h2⟩ := hs.val i d e
      exact ⟨v, h1, h z H v (.refl z H) st h2⟩
theorem e_of {e : Expr} {v : V} {d : D} (p : PE X e (tC v)) (r : ∀ z, RelD g z d v) : PE X e (tI g W (cE d)) :=
  pe_imp p fun σ H Q ⟨z, sl, hc, hs, st, h⟩ => h z H v (.refl z H) st (r z)
theorem e_int {i : Int} {j : Nat} : PE X (.Constant (.int i) j pos) (tI g W (cE (.int i))) := e_of pe_int fun _ => .int i
theorem e_bl {i : Bool} {j : Nat} : PE X (.Constant (.bool i) j pos) (tI g W (cE (.bl i))) := e_of pe_bl fun _ => .bl i
theorem e_non {j : Nat} : PE X (.Constant .none j pos) (tI g W (cE .non)) := e_of pe_non fun _ => .non
theorem e_str {x : Str} {j : Nat} : PE X (.Constant (.str x) j pos) (tI g W (cE (.str x))) := e_of pe_str fun _ => .str x
/-- a constant of the module's top -/
theorem e_gcs {x : Str} {d : D} {v : V} {u : Value} (hm : X.mg x = some u) (rv : RelV v u) (r : ∀ z, RelD g z d v) (hg : Gl X x := by rfl) (hd : (x == ("__debug__" : Str)) = false := by decide) : PE X (.Name x pos) (tI g W (cE d)) := e_of (pe_glob hg hm rv hd) r
/-! ### arguments, displays -/
def nA : Sl → Hc → Res (List D) := fun _ hc => .ok [] hc
def kA (fa : Sl → Hc → Res D) (fr : Sl → Hc → Res (List D)) : Sl → Hc → Res (List D) := fun sl hc => (fa sl hc).bind fun d hc1 => (fr sl hc1).bind fun ds hc2 => .ok (d :: ds) hc2
theorem a_nil : PA X [] (aI g W nA) := pa_imp pa_nil fun σ H Q ⟨z, sl, hc, hs, st, h⟩ => h z H [] (.refl z H) st .nil
theorem a_cons (ha : PE X a (tI g W fa)) (hr : PA X es (aI g W fs)) (hs : starEach (a :: es) X.env = (false, eval a X.env) :: starEach es X.env := by rfl) : PA X (a :: es) (aI g W (kA fa fs)) := by
  refine pa_imp (pa_cons ha hr hs) fun σ H Q ⟨z, sl, hc, hs, st, h⟩ => ?_
  refine tI.mono (OutA.thenE (f := fa) hs st h) fun v H1 ⟨z1, d1, hc1, x1, hs1, st1, r1, o1⟩ => ?_
  refine aI.mono (OutA.thenA (f := fs) hs1 st1 o1) fun ws H2 ⟨z2, d2, hc2, x2, hs2, st2, r2, o2⟩ => ?_
  exact o2 z2 H2 _ (.refl z2 H2) st2 (.cons (r1.mono x2.le) r2)
def tupE (fs : Sl → Hc → Res (List D)) : Sl → Hc → Res D := fun sl hc => (fs sl hc).bind fun ds hc1 => if ds.length ≤ sizeLine then .ok (.tup ds) hc1 else .bad
def lstE (fs : Sl → Hc → Res (List D)) : Sl → Hc → Res D := fun sl hc => (fs sl hc).bind fun ds hc1 => if ds.length ≤ sizeLine then .ok (.lst ds) hc1 else .bad
theorem e_tup {k : Nat} (h : PA X es (aI g W fs)) : PE X (.Tuple es k pos) (tI g W (tupE fs)) := by
  refine pe_imp (pe_tup h) fun σ H Q ⟨z, sl, hc, hs, st, h⟩ => ?_
  refine aI.mono (OutE.thenA (f := fs) hs st h) fun vs H1 ⟨z1, ds, hc1, x1, hs1, st1, r1, o1⟩ => ?_
  by_cases hl : ds.length ≤ sizeLine
  · simp only [hl, if_true] at o1
    refine ⟨by rw [← r1.length]; exact hl, fun p hp => ?_⟩
    obtain ⟨z2, x2, s2, r2⟩ := st1.newTup hp r1
    exact o1 _ _ _ x2 s2 r2
  · simp only [hl, if_false] at o1
    exact o1.elim
theorem e_lst (h : PA X es (aI g W fs)) : PE X (.List es pos) (tI g W (lstE fs)) := by
  refine pe_imp (pe_lst h) fun σ H Q ⟨z, sl, hc, hs, st, h⟩ => ?_
  refine aI.mono (OutE.thenA (f := fs) hs st h) fun vs H1 ⟨z1, ds, hc1, x1, hs1, st1, r1, o1⟩ => ?_
  by_cases hl : ds.length ≤ sizeLine
  · simp only [hl, if_true] at o1
    refine ⟨by rw [← r1.length]; exact hl, fun p hp => ?_⟩
    obtain ⟨z2, x2, s2, r2⟩ := st1.newLst hp r1
    exact o1 _ _ _ x2 s2 r2
  · simp only [hl, if_false] at o1
    exact o1.elim
/-! ### operators -/
theorem e_bin {o : Operator} (ho : OpR X (binaryOp o) (rP g op)) (ha : PE X a (tI g W fa)) (hb : PE X b (tI g W fb)) : PE X (.BinOp a o b pos) (tI g W (opE op fa fb)) := pe_imp (pe_op ho ha hb) fun _ _ _ => read_op
theorem e_cmp {o : CmpOp} (ho : OpR X (compareOp o) (rP g op)) (ha : PE X a (tI g W fa)) (hb : PE X b (tI g W fb)) (hm : behindInMarks o b = false := by first | exact nomark _ | rfl) : PE X (.Compare a [o] [b] pos) (tI g W (opE op fa fb)) := pe_imp (pe_cmpR ho ha hb hm) fun _ _ _ => read_op
def chE (op op2 : Hc → D → D → Option D) (fa fb fc : Sl → Hc → Res D) : Sl → Hc → Res D := fun sl hc => (fa sl hc).bind fun d hc1 => (fb sl hc1).bind fun e hc2 => match op hc2 d e with
  | some (.bl true) => (fc sl hc2).bind fun f hc3 => lift (op2 hc3 e f) hc3
  | some (.bl false) => .ok (.bl false) hc2
  | _ => .bad
theorem read_ch {σ : St} {H : Hp} {Q : VK} (h : tI g W (chE op op2 fa fb fc) σ H Q) : tChain (rP g op) (rP g op2) (tI g W fa) (tI g W fb) (tI g W fc) σ H Q := by
  obtain ⟨z, sl, hc, hs, st, h⟩ := h
  refine tI.mono (OutE.thenE (f := fa) hs st h) fun v H1 ⟨z1, d1, hc1, x1, hs1, st1, r1, o1⟩ => ?_
  refine tI.mono (OutE.thenE (f := fb) hs1 st1 o1) fun w H2 ⟨z2, d2, hc2, x2, hs2, st2, r2, o2⟩ => ?_
  cases e : op hc2 d1 d2 with
  | none => simp only [e] at o2; exact o2.elim
  | some r =>
    cases r with
    | bl b =>
      refine ⟨z2, hc2, d1, d2, .bl b, st2, r1.mono x2.le, r2, e, fun z3 H3 v3 x3 s3 r3 => ?_⟩
      cases r3
      refine ⟨b, rfl, ?_⟩
      cases b with
      | true =>
        simp only [e] at o2
        simp only [if_true]
        have o3 := OutE.ext o2 x3
        refine tI.mono (OutE.thenE (f := fc) (hs2.ext x3) s3 o3) fun w' H4 ⟨z4, d4, hc4, x4, hs4, st4, r4, o4⟩ => ?_
        obtain ⟨rr, er, hq⟩ := o4.lift
        exact ⟨z4, hc4, d2, d4, rr, st4, (r2.mono x3.le).mono x4.le, r4, er, hq⟩
      | false =>
        simp only [e] at o2
        simp only [Bool.false_eq_true, if_false]
        exact o2 z3 H3 _ x3 s3 (.bl false)
    | _ => simp only [e] at o2; exact o2.elim
theorem e_ch {o o' : CmpOp} (ho : OpR X (compareOp o) (rP g op)) (ho' : OpR X (compareOp o') (rP g op2)) (ha : PE X a (tI g W fa)) (hb : PE X b (tI g W fb)) (hc : PE X c (tI g W fc)) (hm : lastMarks [o, o'] [b, c] = false := by with_unfolding_all rfl) :
    PE X (.Compare a [o, o'] [b, c] pos) (tI g W (chE op op2 fa fb fc)) := pe_imp (pe_chain ho ho' ha hb hc hm) fun _ _ _ => read_ch
/-! ### tests -/
def bT (f : Sl → Hc → Res D) : Sl → Hc → Res Bool := fun sl hc => (f sl hc).bind fun d hc1 => match d with
  | .bl b => .ok b hc1
  | _ => .bad
theorem read_bT {σ : St} {H : Hp} {Q : Bool → Hp → Prop} (h : bI g W (bT fa) σ H Q) : tI g W fa σ H fun x H' => ∃ k, x = .bl k ∧ Q k H' := by
  obtain ⟨z, sl, hc, hs, st, h⟩ := h
  refine tI.mono (OutT.thenE (f := fa) hs st h) fun v H1 ⟨z1, d1, hc1, x1, hs1, st1, r1, o1⟩ => ?_
  cases r1 with
  | bl b => exact ⟨b, rfl, o1 z1 H1 (.refl z1 H1) st1⟩
  | _ => exact o1.elim
theorem t_cmp {o : CmpOp} (ho : OpR X (compareOp o) (rP g op)) (ha : PE X a (tI g W fa)) (hb : PE X b (tI g W fb)) (hm : behindInMarks o b = false := by first | exact nomark _ | rfl) : PT X (.Compare a [o] [b] pos) (bI g W (bT (opE op fa fb))) :=
  pt_imp (pt_cmpR ho ha hb hm) fun σ H Q h => read_op (tI.mono (read_bT h) fun _ _ q => q)
theorem t_ch {o o' : CmpOp} (ho : OpR X (compareOp o) (rP g op)) (ho' : OpR X (compareOp o') (rP g op2)) (ha : PE X a (tI g W fa)) (hb : PE X b (tI g W fb)) (hc : PE X c (tI g W fc)) (hm : lastMarks [o, o'] [b, c] = false := by with_unfolding_all rfl) :
    PT X (.Compare a [o, o'] [b, c] pos) (bI g W (bT (chE op op2 fa fb fc))) := pt_imp (pt_chain ho ho' ha hb hc hm) fun σ H Q h => read_ch (tI.mono (read_bT h) fun _ _ q => q)
/-- an expression that gives a bool -/
theorem t_val (ha : PE X a (tI g W fa)) (he : ∀ whole, isTrue a X.env whole = (do let v ← whole; standAt a.pos; holding [v] (truthy v)) := by intro _; rfl) : PT X a (bI g W (bT fa)) := pt_imp (pt_val ha he) fun σ H Q h => read_bT h
def nT (f : Sl → Hc → Res Bool) : Sl → Hc → Res Bool := fun sl hc => (f sl hc).bind fun b hc1 => .ok (!b) hc1
theorem t_not (ha : PT X a (bI g W ft)) : PT X (.UnaryOp .Not a pos) (bI g W (nT ft)) := by
  refine pt_imp (pt_not ha) fun σ H Q ⟨z, sl, hc, hs, st, h⟩ => ?_
  refine bI.mono (OutT.thenT (f := ft) hs st h) fun b H1 ⟨z1, hc1, x1, hs1, st1, o1⟩ => ?_
  exact o1 z1 H1 (.refl z1 H1) st1
def andT (f k : Sl → Hc → Res Bool) : Sl → Hc → Res Bool := fun sl hc => (f sl hc).bind fun b hc1 => if b then k sl hc1 else .ok false hc1
def orT (f k : Sl → Hc → Res Bool) : Sl → Hc → Res Bool := fun sl hc => (f sl hc).bind fun b hc1 => if b then .ok true hc1 else k sl hc1
theorem w_one {o : BoolOp} (ha : PT X a (bI g W ft)) : PW X (.BoolOp o [a] pos) (bI g W ft) := by
  cases o with
  | And => exact pw_and1 ha
  | Or => exact pw_or1 ha
theorem w_and {rest : List Expr} (ha : PT X a (bI g W ft)) (hb : PW X (.BoolOp .And (b :: rest) pos) (bI g W fu)) : PW X (.BoolOp .And (a :: b :: rest) pos) (bI g W (andT ft fu)) := by
  refine pw_imp (pw_and ha hb) fun σ H Q ⟨z, sl, hc, hs, st, h⟩ => ?_
  refine bI.mono (OutT.thenT (f := ft) hs st h) fun b H1 ⟨z1, hc1, x1, hs1, st1, o1⟩ => ?_
  cases b with
  | true => simp only [if_true] at o1 ⊢; exact ⟨z1, sl, hc1, hs1, st1, o1⟩
  | false => simp only [Bool.false_eq_true, if_false] at o1 ⊢; exact o1 z1 H1 (.refl z1 H1) st1
theorem w_or {rest : List Expr} (ha : PT X a (bI g W ft)) (hb : PW X (.BoolOp .Or (b :: rest) pos) (bI g W fu)) : PW X (.BoolOp .Or (a :: b :: rest) pos) (bI g W (orT ft fu)) := by
  refine pw_imp (pw_or ha hb) fun σ H Q ⟨z, sl, hc, hs, st, h⟩ => ?_
  refine bI.mono (OutT.thenT (f := ft) hs st h) fun b H1 ⟨z1, hc1, x1, hs1, st1, o1⟩ => ?_
  cases b with
  | true => simp only [if_true] at o1 ⊢; exact o1 z1 H1 (.refl z1 H1) st1
  | false => simp only [Bool.false_eq_true, if_false] at o1 ⊢; exact ⟨z1, sl, hc1, hs1, st1, o1⟩
theorem t_bool {o : BoolOp} {vs : List Expr} (h : PW X (.BoolOp o vs pos) (bI g W ft)) : PT X (.BoolOp o vs pos) (bI g W ft) := PW.pt h
/-! ### and, or, not, if as values (all but the last a bool) -/
def andE (fa fb : Sl → Hc → Res D) : Sl → Hc → Res D := fun sl hc => (fa sl hc).bind fun d hc1 => match d with
  | .bl true => fb sl hc1
  | .bl false => .ok (.bl false) hc1
  | _ => .bad
def orE (fa fb : Sl → Hc → Res D) : Sl → Hc → Res D := fun sl hc => (fa sl hc).bind fun d hc1 => match d with
  | .bl true => .ok (.bl true) hc1
  | .bl false => fb sl hc1
  | _ => .bad
def notE (fa : Sl → Hc → Res D) : Sl → Hc → Res D := fun sl hc => (fa sl hc).bind fun d hc1 => match d with
  | .bl b => .ok (.bl (!b)) hc1
  | _ => .bad
theorem e_one {o : BoolOp} (ha : PE X a (tI g W fa)) : PE X (.BoolOp o [a] pos) (tI g W fa) := pe_one ha
theorem e_and {rest : List Expr} (ha : PE X a (tI g W fa)) (hb : PE X (.BoolOp .And (b :: rest) pos) (tI g W fb)) : PE X (.BoolOp .And (a :: b :: rest) pos) (tI g W (andE fa fb)) := by
  refine pe_imp (pe_and ha hb) fun σ H Q ⟨z, sl, hc, hs, st, h⟩ => ?_
  refine tI.mono (OutE.thenE (f := fa) hs st h) fun v H1 ⟨z1, d1, hc1, x1, hs1, st1, r1, o1⟩ => ?_
  cases r1 with
  | bl b =>
    refine ⟨b, rfl, ?_⟩
    cases b with
    | true => simp only [if_true]; exact ⟨z1, sl, hc1, hs1, st1, o1⟩
    | false => simp only [Bool.false_eq_true, if_false]; exact o1 z1 H1 _ (.refl z1 H1) st1 (.bl false)
  | _ => exact o1.elim
theorem e_or {rest : List Expr} (ha : PE X a (tI g W fa)) (hb : PE X (.BoolOp .Or (b :: rest) pos) (tI g W fb)) : PE X (.BoolOp .Or (a :: b :: rest) pos) (tI g W (orE fa fb)) := by
  refine pe_imp (pe_or ha hb) fun σ H Q ⟨z, sl, hc, hs, st, h⟩ => ?_
  refine tI.mono (OutE.thenE (f := fa) hs st h) fun v H1 ⟨z1, d1, hc1, x1, hs1, st1, r1, o1⟩ => ?_
  cases r1 with
  | bl b =>
    refine ⟨b, rfl, ?_⟩
    cases b with
    | true => simp only [if_true]; exact o1 z1 H1 _ (.refl z1 H1) st1 (.bl true)
    | false => simp only [Bool.false_eq_true, if_false]; exact ⟨z1, sl, hc1, hs1, st1, o1⟩
  | _ => exact o1.elim
theorem e_not (ha : PE X a (tI g W fa)) : PE X (.UnaryOp .Not a pos) (tI g W (notE fa)) := by
  refine pe_imp (pe_not ha) fun σ H Q ⟨z, sl, hc, hs, st, h⟩ => ?_
  refine tI.mono (OutE.thenE (f := fa) hs st h) fun v H1 ⟨z1, d1, hc1, x1, hs1, st1, r1, o1⟩ => ?_
  cases r1 with
  | bl b => exact ⟨b, rfl, o1 z1 H1 _ (.refl z1 H1) st1 (.bl _)⟩
  | _ => exact o1.elim
def ifE (t : Sl → Hc → Res Bool) (fa fb : Sl → Hc → Res D) : Sl → Hc → Res D := fun sl hc => (t sl hc).bind fun b hc1 => if b then fa sl hc1 else fb sl hc1
theorem e_ife (ht : PT X c (bI g W ft)) (ha : PE X a (tI g W fa)) (hb : PE X b (tI g W fb)) : PE X (.IfExp c a b pos) (tI g W (ifE ft fa fb)) := by
  refine pe_imp (pe_ifExp ht ha hb) fun σ H Q ⟨z, sl, hc, hs, st, h⟩ => ?_
  refine bI.mono (OutE.thenT (f := ft) hs st h) fun b H1 ⟨z1, hc1, x1, hs1, st1, o1⟩ => ?_
  cases b with
  | true => simp only [if_true] at o1 ⊢; exact ⟨z1, sl, hc1, hs1, st1, o1⟩
  | false => simp only [Bool.false_eq_true, if_false] at o1 ⊢; exact ⟨z1, sl, hc1, hs1, st1, o1⟩
end
end Bo

set_option Elab.async false
set_option linter.all false
set_option maxRecDepth 100000
set_option maxHeartbeats 2000000
set_option autoImplicit false
/-! Bo3: operators by values. -/
namespace Bo
open PySem PySem.Spec L2

/-! ### data -/
mutual
def toPy : D → Option PyData
  | .non => some .none
  | .bl b => some (.bool b)
  | .int i => some (.int i)
  | .str x => some (.str x)
  | .lst ds => (toPys ds).map .list
  | .kl ds => (toPys ds).map .list
  | .tup ds => (toPys ds).map .tuple
  | _ => none
def toPys : List D → Option (List PyData)
  | [] => some []
  | d :: ds => (toPy d).bind fun p => (toPys ds).map (p :: ·)
end
/-- a numbered list is read, too -/
def toPy1 (hc : Hc) (d : D) : Option PyData := match d with
  | .loc n => (match hc.get n with
    | some (.lst ds) => (toPys ds).map .list
    | _ => none)
  | d => toPy d
section
variable {g : Gx} {z : Fz} {H : Hp} {hc : Hc}
mutual
theorem toPy_dp (sub : ∀ a o, z.F a = some o → H a = some o) : ∀ {d : D} {v : V} {p : PyData}, RelD g z d v → toPy d = some p → Dp g.K H v p
  | _, _, _, .non, e => by simp [toPy] at e; subst e; exact .non
  | _, _, _, .bl b, e => by simp [toPy] at e; subst e; exact .bl b
  | _, _, _, .int b, e => by simp [toPy] at e; subst e; exact .int b
  | _, _, _, .str b, e => by simp [toPy] at e; subst e; exact .str b
  | .lst ds, _, _, .lst h r, e => by
    simp only [toPy, Option.map_eq_some_iff] at e
    obtain ⟨ps, e1, rfl⟩ := e
    exact .lst (.inl (Rd.mono sub h)) (toPys_dp sub r e1)
  | .kl ds, _, _, .kl h r, e => by
    simp only [toPy, Option.map_eq_some_iff] at e
    obtain ⟨ps, e1, rfl⟩ := e
    exact .lst (SqL.mono sub h) (toPys_dp sub r e1)
  | .tup ds, _, _, .tup h r, e => by
    simp only [toPy, Option.map_eq_some_iff] at e
    obtain ⟨ps, e1, rfl⟩ := e
    exact .tup (SqT.mono sub h) (toPys_dp sub r e1)
  | _, _, _, .dct h l r, e => by simp [toPy] at e
  | _, _, _, .loc h, e => by simp [toPy] at e
  | _, _, _, .fn h, e => by simp [toPy] at e
  | _, _, _, .ty h, e => by simp [toPy] at e
  | _, _, _, .ex h, e => by simp [toPy] at e
theorem toPys_dp (sub : ∀ a o, z.F a = some o → H a = some o) : ∀ {ds : List D} {vs : List V} {ps : List PyData}, RelDs g z ds vs → toPys ds = some ps → DpAll g.K H vs ps
  | _, _, _, .nil, e => by simp [toPys] at e; subst e; exact .nil
  | d :: ds, _, _, .cons h r, e => by
    simp only [toPys, Option.bind_eq_some_iff, Option.map_eq_some_iff] at e
    obtain ⟨p, e1, ps, e2, rfl⟩ := e
    exact .cons (toPy_dp sub h e1) (toPys_dp sub r e2)
end
theorem StR.data (st : StR g z H hc) {d : D} {v : V} {p : PyData} (r : RelD g z d v) (e : toPy1 hc d = some p) : Dp g.K H v p := by
  cases r with
  | loc h =>
    rename_i n a
    unfold toPy1 at e
    cases q : hc.get n with
    | none => simp [q] at e
    | some o =>
      cases o with
      | lst es =>
        simp only [q, Option.map_eq_some_iff] at e
        obtain ⟨ps, e1, rfl⟩ := e
        obtain ⟨b, h1, h2, xs, h3, h4⟩ := st.obj n _ q
        rw [h] at h1; cases h1
        exact .lst (SqL.of h3) (toPys_dp st.sub h4 e1)
      | ins c fs => simp [q] at e
  | non => exact toPy_dp st.sub .non e
  | bl b => exact toPy_dp st.sub (.bl b) e
  | int b => exact toPy_dp st.sub (.int b) e
  | str b => exact toPy_dp st.sub (.str b) e
  | lst h q => exact toPy_dp st.sub (.lst h q) e
  | kl h q => exact toPy_dp st.sub (.kl h q) e
  | tup h q => exact toPy_dp st.sub (.tup h q) e
  | dct h l q => exact toPy_dp st.sub (.dct h l q) e
  | fn h => exact toPy_dp (z := z) st.sub (.fn h) e
  | ty h => exact toPy_dp (z := z) st.sub (.ty h) e
  | ex h => exact toPy_dp (z := z) st.sub (.ex h) e
end

/-! ### the operators -/
def addD (_ : Hc) : D → D → Option D
  | .int i, .int j => some (.int (i + j))
  | .str x, .str y => if x.length + y.length ≤ sizeLine then some (.str (x ++ y)) else none
  | .lst xs, .lst ys => if xs.length + ys.length ≤ sizeLine then some (.lst (xs ++ ys)) else none
  | .tup xs, .tup ys => if xs.length + ys.length ≤ sizeLine then some (.tup (xs ++ ys)) else none
  | _, _ => none
def subD (_ : Hc) : D → D → Option D
  | .int i, .int j => some (.int (i - j))
  | _, _ => none
def small64 (i : Int) : Bool := decide (-(2 ^ 64) < i) && decide (i < 2 ^ 64)
def mulD (_ : Hc) : D → D → Option D
  | .int i, .int j => if small64 i || small64 j then some (.int (i * j)) else none
  | _, _ => none
def fdivD (_ : Hc) : D → D → Option D
  | .int i, .int j => if decide (0 < j) && decide (j < 1073741824) then some (.int (i / j)) else none
  | _, _ => none
def modD (_ : Hc) : D → D → Option D
  | .int i, .int j => if 0 < j then some (.int (i % j)) else none
  | _, _ => none
def powD (_ : Hc) : D → D → Option D
  | .int i, .int j => if decide (0 ≤ j) && (decide (j ≤ 1000000) && decide (i.natAbs < 2 ^ 64)) then some (.int (i ^ j.toNat)) else none
  | _, _ => none
/-- scalars by themselves, all else as data -/
def eqD (hc : Hc) (d e : D) : Option Bool := match d, e with
  | .int i, .int j => some (decide (i = j))
  | .str x, .str y => some (decide (x = y))
  | .bl x, .bl y => some (decide (x = y))
  | .non, .non => some true
  | .non, .int _ | .int _, .non | .non, .bl _ | .bl _, .non | .non, .str _ | .str _, .non | .int _, .str _ | .str _, .int _ | .bl _, .str _ | .str _, .bl _ => some false
  | d, e => match toPy1 hc d, toPy1 hc e with
    | some p, some q => if SeqAt.shaped p && SeqAt.shaped q then some (PyData.eqv p q) else none
    | _, _ => none
def eqO (hc : Hc) (d e : D) : Option D := (eqD hc d e).map .bl
def neO (hc : Hc) (d e : D) : Option D := (eqD hc d e).map fun b => .bl (!b)
def ltS (x y : Str) : Bool := decide (x.cps.toList < y.cps.toList)
def ltO (_ : Hc) : D → D → Option D
  | .int i, .int j => some (.bl (decide (i < j)))
  | .str x, .str y => some (.bl (ltS x y))
  | _, _ => none
def leO (_ : Hc) : D → D → Option D
  | .int i, .int j => some (.bl (decide (i ≤ j)))
  | .str x, .str y => some (.bl (!ltS y x))
  | _, _ => none
def gtO (_ : Hc) : D → D → Option D
  | .int i, .int j => some (.bl (decide (j < i)))
  | .str x, .str y => some (.bl (ltS y x))
  | _, _ => none
def geO (_ : Hc) : D → D → Option D
  | .int i, .int j => some (.bl (decide (j ≤ i)))
  | .str x, .str y => some (.bl (!ltS x y))
  | _, _ => none
def isO (_ : Hc) : D → D → Option D
  | .non, .non => some (.bl true)
  | .bl a, .bl b => some (.bl (decide (a = b)))
  | .non, _ => none
  | _, .non => some (.bl false)
  | _, _ => none
def isnO (_ : Hc) : D → D → Option D
  | .non, .non => some (.bl false)
  | .bl a, .bl b => some (.bl (!decide (a = b)))
  | .non, _ => none
  | _, .non => some (.bl true)
  | _, _ => none
/-- one sign in a text; an item in a list or tuple -/
def inD (hc : Hc) (d e : D) : Option Bool := match d, e with
  | .str x, .str y => (match x.cps.toList with
    | [c] => some (decide (c ∈ y.cps.toList))
    | _ => none)
  | d, .tup es => (match toPy1 hc d, toPys es with
    | some p, some qs => if SeqAt.shaped p && SeqAt.shaped (.tuple qs) then some (qs.any fun q => PyData.eqv q p) else none
    | _, _ => none)
  | d, e => (match toPy1 hc d, toPy1 hc e with
    | some p, some (.list qs) => if SeqAt.shaped p && SeqAt.shaped (.list qs) then some (qs.any fun q => PyData.eqv q p) else none
    | _, _ => none)
def inO (hc : Hc) (d e : D) : Option D := (inD hc d e).map .bl
def ninO (hc : Hc) (d e : D) : Option D := (inD hc d e).map fun b => .bl (!b)

section
variable {X : Cx} {g : Gx} {W : WX} {k : Nat}
/-- a plain answer -/
theorem plain {z : Fz} {H : Hp} {hc : Hc} {r : D} {v : V} {Q : VK} (st : StR g z H hc) (q : ∀ z' H' v, Ext z H z' H' → StR g z' H' hc → RelD g z' r v → Q v H') (rv : RelD g z r v) : Q v H := q z H v (.refl z H) st rv
theorem Rd.lists {pins : List (Addr × Obj)} {σ : St} {H : Hp} {s : Shared} {a : Addr} {xs : List V} (I : Inv X pins σ H s) (h : Rd H a (.lst xs)) :
    xs.length ≤ sizeLine ∧ ∃ (its : List Value) (n : Nat), Vals xs its ∧ s.heap.get? a = some { cls := .type "list", data := .seq its.toArray n } := h.ok I.hok
theorem o_add (c : Ct X g W k) : OpR X (binaryOp .Add) (rP g addD) := by
  intro pins s σ H x y v u Q I rx ry ⟨z, hc, d, e, r, st, r1, r2, er, q⟩
  have hK := c.hK
  cases r1 with
  | int i => cases r2 with
    | int j => cases er; exact op_add pins s σ H _ _ v u Q I rx ry ⟨i, j, rfl, rfl, plain st q (.int _)⟩
    | _ => cases er
  | str i => cases r2 with
    | str j =>
      simp only [addD] at er
      split at er
      · rename_i hl
        cases er; exact op_add_str pins s σ H _ _ v u Q I rx ry ⟨i, j, rfl, rfl, hl, plain st q (.str _)⟩
      · cases er
    | _ => cases er
  | lst h1 q1 => cases r2 with
    | lst h2 q2 =>
      rename_i a xs ds b ys es
      simp only [addD] at er
      split at er
      · rename_i hl
        cases er
        cases rx
        cases ry
        obtain ⟨_, its, n, rv, e1⟩ := Rd.lists I (Rd.mono st.sub h1)
        obtain ⟨_, its2, n2, rv2, e2⟩ := Rd.lists I (Rd.mono st.sub h2)
        have hz : xs.length + ys.length ≤ sizeLine := by rw [← q1.length, ← q2.length]; exact hl
        have l1 := rv.length
        have l2 := rv2.length
        refine PySem.P.add_list e1 e2 ?_ (by rw [List.size_toArray, List.size_toArray]; omega)
        have ea : its.toArray ++ its2.toArray = (its ++ its2).toArray := by simp
        rw [ea]
        obtain ⟨z2, x2, s2, r2⟩ := st.newLst I.fresh (q1.append q2)
        exact ⟨.ref _, _, I.lnew (t' := s.toks) (rv.append rv2) (by rw [List.length_append]; omega), rfl, q _ _ _ x2 s2 r2⟩
      · cases er
    | _ => cases er
  | tup h1 q1 => cases r2 with
    | tup h2 q2 =>
      rename_i a xs ds b ys es
      simp only [addD] at er
      split at er
      · rename_i hl
        cases er
        refine op_catA pins s σ H _ _ v u Q I rx ry ⟨a, b, xs, ys, rfl, rfl, by rw [hK]; exact SqT.mono st.sub h1, by rw [hK]; exact SqT.mono st.sub h2, by rw [← q1.length, ← q2.length]; exact hl, fun e => ?_, fun _ e => ?_, fun _ _ p hp => ?_⟩
        · subst e
          cases q1
          exact plain st q (.tup h2 q2)
        · subst e
          cases q2
          rw [List.append_nil] at q
          exact plain st q (.tup h1 q1)
        · obtain ⟨z2, x2, s2, r2⟩ := st.newTup hp (q1.append q2)
          exact q _ _ _ x2 s2 r2
      · cases er
    | _ => cases er
  | _ => cases r2 <;> cases er
/-- two ints -/
theorem twoInts {z : Fz} {d e r : D} {x y : V} {f : Int → Int → Option D} {op : D → D → Option D} (r1 : RelD g z d x) (r2 : RelD g z e y) (er : op d e = some r) (h : ∀ d e r, op d e = some r → ∃ i j, d = .int i ∧ e = .int j ∧ f i j = some r) :
    ∃ i j, x = .int i ∧ y = .int j ∧ f i j = some r := by
  obtain ⟨i, j, rfl, rfl, e⟩ := h d e r er
  cases r1
  cases r2
  exact ⟨i, j, rfl, rfl, e⟩
theorem o_sub : OpR X (binaryOp .Sub) (rP g subD) := by
  intro pins s σ H x y v u Q I rx ry ⟨z, hc, d, e, r, st, r1, r2, er, q⟩
  obtain ⟨i, j, rfl, rfl, ef⟩ := twoInts (f := fun i j => some (.int (i - j))) r1 r2 er fun d e r h => by
    cases d <;> cases e <;> first | (cases h; exact ⟨_, _, rfl, rfl, rfl⟩) | cases h
  cases ef
  exact op_sub pins s σ H _ _ v u Q I rx ry ⟨i, j, rfl, rfl, plain st q (.int _)⟩
theorem o_mul : OpR X (binaryOp .Mult) (rP g mulD) := by
  intro pins s σ H x y v u Q I rx ry ⟨z, hc, d, e, r, st, r1, r2, er, q⟩
  obtain ⟨i, j, rfl, rfl, ef⟩ := twoInts (f := fun i j => if small64 i || small64 j then some (.int (i * j)) else none) r1 r2 er fun d e r h => by
    cases d <;> cases e <;> first | exact ⟨_, _, rfl, rfl, h⟩ | cases h
  split at ef
  · rename_i hl
    cases ef
    refine op_mul pins s σ H _ _ v u Q I rx ry ⟨i, j, rfl, rfl, ?_, plain st q (.int _)⟩
    simp only [small64, Bool.or_eq_true, Bool.and_eq_true, decide_eq_true_eq] at hl
    exact hl
  · cases ef
theorem o_fdiv : OpR X (binaryOp .FloorDiv) (rP g fdivD) := by
  intro pins s σ H x y v u Q I rx ry ⟨z, hc, d, e, r, st, r1, r2, er, q⟩
  obtain ⟨i, j, rfl, rfl, ef⟩ := twoInts (f := fun i j => if decide (0 < j) && decide (j < 1073741824) then some (.int (i / j)) else none) r1 r2 er fun d e r h => by
    cases d <;> cases e <;> first | exact ⟨_, _, rfl, rfl, h⟩ | cases h
  split at ef
  · rename_i hl
    cases ef
    refine op_fdiv pins s σ H _ _ v u Q I rx ry ⟨i, j, rfl, rfl, ?_, plain st q (.int _)⟩
    simp only [Bool.and_eq_true, decide_eq_true_eq] at hl
    exact hl
  · cases ef
theorem o_mod : OpR X (binaryOp .Mod) (rP g modD) := by
  intro pins s σ H x y v u Q I rx ry ⟨z, hc, d, e, r, st, r1, r2, er, q⟩
  obtain ⟨i, j, rfl, rfl, ef⟩ := twoInts (f := fun i j => if 0 < j then some (.int (i % j)) else none) r1 r2 er fun d e r h => by
    cases d <;> cases e <;> first | exact ⟨_, _, rfl, rfl, h⟩ | cases h
  split at ef
  · rename_i hl
    cases ef
    exact op_mod pins s σ H _ _ v u Q I rx ry ⟨i, j, rfl, rfl, hl, plain st q (.int _)⟩
  · cases ef
theorem o_pow : OpR X (binaryOp .Pow) (rP g powD) := by
  intro pins s σ H x y v u Q I rx ry ⟨z, hc, d, e, r, st, r1, r2, er, q⟩
  obtain ⟨i, j, rfl, rfl, ef⟩ := twoInts (f := fun i j => if decide (0 ≤ j) && (decide (j ≤ 1000000) && decide (i.natAbs < 2 ^ 64)) then some (.int (i ^ j.toNat)) else none) r1 r2 er fun d e r h => by
    cases d <;> cases e <;> first | exact ⟨_, _, rfl, rfl, h⟩ | cases h
  split at ef
  · rename_i hl
    cases ef
    refine op_pow pins s σ H _ _ v u Q I rx ry ⟨i, j, rfl, rfl, ?_, plain st q (.int _)⟩
    simp only [Bool.and_eq_true, decide_eq_true_eq] at hl
    exact hl
  · cases ef
end
/-! ### comparisons -/
section
variable {X : Cx} {g : Gx} {W : WX} {k : Nat}
/-- what eqD says of two related values -/
theorem eqD_cases {z : Fz} {H : Hp} {hc : Hc} {d e : D} {x y : V} {b : Bool} (st : StR g z H hc) (r1 : RelD g z d x) (r2 : RelD g z e y) (er : eqD hc d e = some b) :
    (scal x y = true ∧ b = decide (x = y)) ∨ ∃ p q, Dp g.K H x p ∧ Dp g.K H y q ∧ SeqAt.shaped p = true ∧ SeqAt.shaped q = true ∧ b = PyData.eqv p q := by
  have deep : ∀ (h : (match toPy1 hc d, toPy1 hc e with
    | some p, some q => if SeqAt.shaped p && SeqAt.shaped q then some (PyData.eqv p q) else none
    | _, _ => none) = some b), ∃ p q, Dp g.K H x p ∧ Dp g.K H y q ∧ SeqAt.shaped p = true ∧ SeqAt.shaped q = true ∧ b = PyData.eqv p q := fun h => by
    cases e1 : toPy1 hc d with
    | none => rw [e1] at h; cases h
    | some p =>
      cases e2 : toPy1 hc e with
      | none => rw [e1, e2] at h; cases h
      | some q =>
        rw [e1, e2] at h
        simp only at h
        split at h
        · rename_i hs
          cases h
          rw [Bool.and_eq_true] at hs
          exact ⟨p, q, st.data r1 e1, st.data r2 e2, hs.1, hs.2, rfl⟩
        · cases h
  cases r1 <;> cases r2 <;> first
    | (refine .inr (deep ?_); exact er)
    | (cases er; exact .inl ⟨rfl, by simp⟩)
    | (cases er; exact .inl ⟨rfl, rfl⟩)
theorem o_eq (c : Ct X g W k) : OpR X (compareOp .Eq) (rP g eqO) := by
  intro pins s σ H x y v u Q I rx ry ⟨z, hc, d, e, r, st, r1, r2, er, q⟩
  simp only [eqO, Option.map_eq_some_iff] at er
  obtain ⟨b, er, rfl⟩ := er
  rcases eqD_cases st r1 r2 er with ⟨h1, rfl⟩ | ⟨p, p', h1, h2, h3, h4, rfl⟩
  · exact op_eq pins s σ H x y v u Q I rx ry ⟨h1, plain st q (.bl _)⟩
  · exact op_eqD c.room.units pins s σ H x y v u Q I rx ry ⟨p, p', by rw [c.hK]; exact h1, by rw [c.hK]; exact h2, h3, h4, plain st q (.bl _)⟩
theorem o_ne (c : Ct X g W k) : OpR X (compareOp .NotEq) (rP g neO) := by
  intro pins s σ H x y v u Q I rx ry ⟨z, hc, d, e, r, st, r1, r2, er, q⟩
  simp only [neO, Option.map_eq_some_iff] at er
  obtain ⟨b, er, rfl⟩ := er
  rcases eqD_cases st r1 r2 er with ⟨h1, rfl⟩ | ⟨p, p', h1, h2, h3, h4, rfl⟩
  · exact op_ne pins s σ H x y v u Q I rx ry ⟨h1, plain st q (.bl _)⟩
  · exact op_neD c.room.units pins s σ H x y v u Q I rx ry ⟨p, p', by rw [c.hK]; exact h1, by rw [c.hK]; exact h2, h3, h4, plain st q (.bl _)⟩
theorem o_lt : OpR X (compareOp .Lt) (rP g ltO) := by
  intro pins s σ H x y v u Q I rx ry ⟨z, hc, d, e, r, st, r1, r2, er, q⟩
  cases r1 with
  | int i => cases r2 with
    | int j => cases er; exact op_lt pins s σ H _ _ v u Q I rx ry ⟨i, j, rfl, rfl, plain st q (.bl _)⟩
    | _ => cases er
  | str i => cases r2 with
    | str j => cases er; exact op_lt_str pins s σ H _ _ v u Q I rx ry ⟨i, j, rfl, rfl, plain st q (.bl _)⟩
    | _ => cases er
  | _ => cases r2 <;> cases er
theorem o_le : OpR X (compareOp .LtE) (rP g leO) := by
  intro pins s σ H x y v u Q I rx ry ⟨z, hc, d, e, r, st, r1, r2, er, q⟩
  cases r1 with
  | int i => cases r2 with
    | int j => cases er; exact op_le pins s σ H _ _ v u Q I rx ry ⟨i, j, rfl, rfl, plain st q (.bl _)⟩
    | _ => cases er
  | str i => cases r2 with
    | str j => cases er; exact op_le_str pins s σ H _ _ v u Q I rx ry ⟨i, j, rfl, rfl, plain st q (.bl _)⟩
    | _ => cases er
  | _ => cases r2 <;> cases er
theorem o_gt : OpR X (compareOp .Gt) (rP g gtO) := by
  intro pins s σ H x y v u Q I rx ry ⟨z, hc, d, e, r, st, r1, r2, er, q⟩
  cases r1 with
  | int i => cases r2 with
    | int j => cases er; exact op_gt pins s σ H _ _ v u Q I rx ry ⟨i, j, rfl, rfl, plain st q (.bl _)⟩
    | _ => cases er
  | str i => cases r2 with
    | str j => cases er; exact op_gt_str pins s σ H _ _ v u Q I rx ry ⟨i, j, rfl, rfl, plain st q (.bl _)⟩
    | _ => cases er
  | _ => cases r2 <;> cases er
theorem o_ge : OpR X (compareOp .GtE) (rP g geO) := by
  intro pins s σ H x y v u Q I rx ry ⟨z, hc, d, e, r, st, r1, r2, er, q⟩
  cases r1 with
  | int i => cases r2 with
    | int j => cases er; exact op_ge pins s σ H _ _ v u Q I rx ry ⟨i, j, rfl, rfl, plain st q (.bl _)⟩
    | _ => cases er
  | str i => cases r2 with
    | str j => cases er; exact op_ge_str pins s σ H _ _ v u Q I rx ry ⟨i, j, rfl, rfl, plain st q (.bl _)⟩
    | _ => cases er
  | _ => cases r2 <;> cases er
theorem o_is : OpR X (compareOp .Is) (rP g isO) := by
  intro pins s σ H x y v u Q I rx ry ⟨z, hc, d, e, r, st, r1, r2, er, q⟩
  cases r2 with
  | non =>
    have h : r = .bl (decide (x = .non)) := by
      cases r1 <;> first | (cases er; simp) | (cases er; rfl)
    subst h
    exact op_isN pins s σ H _ _ v u Q I rx ry ⟨rfl, plain st q (.bl _)⟩
  | bl j => cases r1 with
    | bl i => cases er; exact op_isBl pins s σ H _ _ v u Q I rx ry ⟨i, j, rfl, rfl, plain st q (.bl _)⟩
    | _ => cases er
  | _ => cases r1 <;> cases er
theorem o_isn : OpR X (compareOp .IsNot) (rP g isnO) := by
  intro pins s σ H x y v u Q I rx ry ⟨z, hc, d, e, r, st, r1, r2, er, q⟩
  cases r2 with
  | non =>
    have h : r = .bl (!decide (x = .non)) := by
      cases r1 <;> first | (cases er; simp) | (cases er; rfl)
    subst h
    exact op_notN pins s σ H _ _ v u Q I rx ry ⟨rfl, plain st q (.bl _)⟩
  | bl j => cases r1 with
    | bl i => cases er; exact op_notBl pins s σ H _ _ v u Q I rx ry ⟨i, j, rfl, rfl, plain st q (.bl _)⟩
    | _ => cases er
  | _ => cases r1 <;> cases er
end
end Bo

set_option Elab.async false
set_option linter.all false
set_option maxRecDepth 100000
set_option maxHeartbeats 2000000
set_option autoImplicit false
/-! Bo4: in, subscripts, slices, built-ins. -/
namespace Bo
open PySem PySem.Spec L2

section
variable {X : Cx} {g : Gx} {W : WX} {k : Nat}
theorem room65 (c : Ct X g W k) : X.A.units + 65 < cLine := by have := c.room.un; omega
theorem roomIn (c : Ct X g W k) {p : PyData} {qs : List PyData} (h : SeqAt.shaped p = true) : X.A.units + 1 + min (PyData.depthAll qs) p.depth < cLine := by
  have h1 := SeqAt.depth_of_shaped h
  have h2 := room65 c
  have h3 : min (PyData.depthAll qs) p.depth ≤ p.depth := Nat.min_le_right _ _
  omega
theorem inD_cases {z : Fz} {H : Hp} {hc : Hc} {d e : D} {x y : V} {b : Bool} (st : StR g z H hc) (r1 : RelD g z d x) (r2 : RelD g z e y) (er : inD hc d e = some b) :
    (∃ (c : Nat) (t : Str), x = .str ⟨#[c]⟩ ∧ y = .str t ∧ b = decide (c ∈ t.cps.toList)) ∨
    (∃ p qs, Dp g.K H x p ∧ Dp g.K H y (.list qs) ∧ SeqAt.shaped p = true ∧ SeqAt.shaped (.list qs) = true ∧ b = qs.any fun q => PyData.eqv q p) ∨
    ∃ p qs, Dp g.K H x p ∧ Dp g.K H y (.tuple qs) ∧ SeqAt.shaped p = true ∧ SeqAt.shaped (.tuple qs) = true ∧ b = qs.any fun q => PyData.eqv q p := by
  have lists : ∀ (h : (match toPy1 hc d, toPy1 hc e with
    | some p, some (.list qs) => if SeqAt.shaped p && SeqAt.shaped (.list qs) then some (qs.any fun q => PyData.eqv q p) else none
    | _, _ => none) = some b), ∃ p qs, Dp g.K H x p ∧ Dp g.K H y (.list qs) ∧ SeqAt.shaped p = true ∧ SeqAt.shaped (.list qs) = true ∧ b = qs.any fun q => PyData.eqv q p := fun h => by
    cases e1 : toPy1 hc d with
    | none => rw [e1] at h; cases h
    | some p =>
      cases e2 : toPy1 hc e with
      | none => rw [e1, e2] at h; cases h
      | some q =>
        rw [e1, e2] at h
        cases q with
        | list qs =>
          simp only at h
          split at h
          · rename_i hs
            cases h
            rw [Bool.and_eq_true] at hs
            exact ⟨p, qs, st.data r1 e1, st.data r2 e2, hs.1, hs.2, rfl⟩
          · cases h
        | _ => cases h
  cases r2 with
  | tup h2 q2 =>
    rename_i a xs es
    have er' : (match toPy1 hc d, toPys es with
      | some p, some qs => if SeqAt.shaped p && SeqAt.shaped (.tuple qs) then some (qs.any fun q => PyData.eqv q p) else none
      | _, _ => none) = some b := by cases d <;> exact er
    refine .inr (.inr ?_)
    cases e1 : toPy1 hc d with
    | none => rw [e1] at er'; cases er'
    | some p =>
      cases e2 : toPys es with
      | none => rw [e1, e2] at er'; cases er'
      | some qs =>
        rw [e1, e2] at er'
        simp only at er'
        split at er'
        · rename_i hs
          cases er'
          rw [Bool.and_eq_true] at hs
          exact ⟨p, qs, st.data r1 e1, st.data (.tup h2 q2) (by simp [toPy1, toPy, e2]), hs.1, hs.2, rfl⟩
        · cases er'
  | str t =>
    cases r1 with
    | str u =>
      refine .inl ?_
      simp only [inD] at er
      split at er
      · rename_i c hc'
        cases er
        refine ⟨c, t, ?_, rfl, rfl⟩
        obtain ⟨⟨cs⟩⟩ := u
        simp only at hc'
        subst hc'
        rfl
      · cases er
    | _ => exact .inr (.inl (lists er))
  | _ => exact .inr (.inl (lists (by cases d <;> exact er)))
theorem o_in (c : Ct X g W k) : OpR X (compareOp .In) (rP g inO) := by
  intro pins s σ H x y v u Q I rx ry ⟨z, hc, d, e, r, st, r1, r2, er, q⟩
  simp only [inO, Option.map_eq_some_iff] at er
  obtain ⟨b, er, rfl⟩ := er
  rcases inD_cases st r1 r2 er with ⟨a, t, rfl, rfl, rfl⟩ | ⟨p, qs, h1, h2, h3, h4, rfl⟩ | ⟨p, qs, h1, h2, h3, h4, rfl⟩
  · exact op_in_sign pins s σ H _ _ v u Q I rx ry ⟨a, t, rfl, rfl, plain st q (.bl _)⟩
  · rw [← c.hK] at h1 h2
    obtain ⟨as, ra⟩ := Dp.reads I p x v h1 rx
    obtain ⟨bs, rb⟩ := Dp.reads I (.list qs) y u h2 ry
    exact SeqAt.in_list_reads rb ra (SeqAt.canLay_of_shaped h4) (SeqAt.canLay_of_shaped h3) (roomIn c h3) ⟨.bl _, H, I, rfl, plain st q (.bl _)⟩
  · rw [← c.hK] at h1 h2
    obtain ⟨as, ra⟩ := Dp.reads I p x v h1 rx
    obtain ⟨bs, rb⟩ := Dp.reads I (.tuple qs) y u h2 ry
    exact SeqAt.in_tuple_reads rb ra (SeqAt.canLay_of_shaped h4) (SeqAt.canLay_of_shaped h3) (roomIn c h3) ⟨.bl _, H, I, rfl, plain st q (.bl _)⟩
theorem o_nin (c : Ct X g W k) : OpR X (compareOp .NotIn) (rP g ninO) := by
  intro pins s σ H x y v u Q I rx ry ⟨z, hc, d, e, r, st, r1, r2, er, q⟩
  simp only [ninO, Option.map_eq_some_iff] at er
  obtain ⟨b, er, rfl⟩ := er
  rcases inD_cases st r1 r2 er with ⟨a, t, rfl, rfl, rfl⟩ | ⟨p, qs, h1, h2, h3, h4, rfl⟩ | ⟨p, qs, h1, h2, h3, h4, rfl⟩
  · exact op_notIn_sign pins s σ H _ _ v u Q I rx ry ⟨a, t, rfl, rfl, plain st q (.bl _)⟩
  · rw [← c.hK] at h1 h2
    obtain ⟨as, ra⟩ := Dp.reads I p x v h1 rx
    obtain ⟨bs, rb⟩ := Dp.reads I (.list qs) y u h2 ry
    exact SeqAt.notIn_list_reads rb ra (SeqAt.canLay_of_shaped h4) (SeqAt.canLay_of_shaped h3) (roomIn c h3) ⟨.bl _, H, I, rfl, plain st q (.bl _)⟩
  · rw [← c.hK] at h1 h2
    obtain ⟨as, ra⟩ := Dp.reads I p x v h1 rx
    obtain ⟨bs, rb⟩ := Dp.reads I (.tuple qs) y u h2 ry
    exact SeqAt.notIn_tuple_reads rb ra (SeqAt.canLay_of_shaped h4) (SeqAt.canLay_of_shaped h3) (roomIn c h3) ⟨.bl _, H, I, rfl, plain st q (.bl _)⟩
end

/-! ### subscripts -/
def ixD (hc : Hc) (d e : D) : Option D := match e with
  | .int i => (match d with
    | .tup ds => atI ds i
    | .str x => if x.length ≤ sizeLine then (atI x.cps.toList i).map fun c => .str ⟨#[c]⟩ else none
    | d => (hc.lst? d).bind fun ds => atI ds i)
  | _ => none
theorem RelDs.atI {g : Gx} {z : Fz} {ds : List D} {xs : List V} {i : Int} {d : D} (r : RelDs g z ds xs) (e : L2.atI ds i = some d) : ∃ v, L2.atI xs i = some v ∧ RelD g z d v := by
  unfold L2.atI at e ⊢
  rw [r.length] at e
  cases q : ixN xs.length i with
  | none => rw [q] at e; cases e
  | some j =>
    rw [q] at e
    exact r.get e
section
variable {X : Cx} {g : Gx} {W : WX} {k : Nat}
theorem o_ix (c : Ct X g W k) : IxR X (rP g ixD) := by
  intro value slice pins s σ H x y v u Q I rx ry ⟨z, hc, d, e, r, st, r1, r2, er, q⟩ hs
  cases r2 with
  | int i =>
    have lists : ∀ (h : ((hc.lst? d).bind fun ds => L2.atI ds i) = some r), wpAny (model X.prog X.w) X.A (PyProof.Rows.subscriptTail value slice v u) (EP X pins σ Q) X.xe s := fun h => by
      obtain ⟨ds, h1, h2⟩ := Option.bind_eq_some_iff.mp h
      obtain ⟨a, xs, rfl, hl, rl⟩ := st.list h1 r1
      obtain ⟨w, h3, h4⟩ := rl.atI h2
      exact ix_list value slice pins s σ H _ _ v u Q I rx ry ⟨a, xs, i, w, rfl, rfl, by rw [c.hK]; exact hl, h3, plain st q h4⟩ hs
    cases r1 with
    | tup h1 q1 =>
      obtain ⟨w, h3, h4⟩ := q1.atI er
      exact ix_tup value slice pins s σ H _ _ v u Q I rx ry ⟨_, _, i, w, rfl, rfl, by rw [c.hK]; exact SqT.mono st.sub h1, h3, plain st q h4⟩ hs
    | str t =>
      simp only [ixD] at er
      split at er
      · rename_i hl
        obtain ⟨cc, h1, rfl⟩ := Option.map_eq_some_iff.mp er
        exact ix_str value slice pins s σ H _ _ v u Q I rx ry ⟨t, i, cc, rfl, rfl, hl, h1, plain st q (.str _)⟩ hs
      · cases er
    | lst h1 q1 => exact lists er
    | kl h1 q1 => exact lists er
    | loc h1 => exact lists er
    | _ => cases er
  | _ => cases er
theorem e_ix {a b : Expr} {fa fb : Sl → Hc → Res D} {pos : Pos} (c : Ct X g W k) (ha : PE X a (tI g W fa)) (hb : PE X b (tI g W fb)) (hs : PlainIx b := by intro _ _; rfl) : PE X (.Subscript a b pos) (tI g W (opE ixD fa fb)) :=
  pe_imp (pe_ix (o_ix c) ha hb hs) fun _ _ _ => read_op
end

/-! ### slices -/
def cutD (ds : List D) (lo hi : Option Int) : List D := (ds.drop (HT.sIx ds.length 0 lo)).take (HT.sIx ds.length ds.length hi - HT.sIx ds.length 0 lo)
def slD (hc : Hc) (d : D) (lo hi : Option Int) : Option D := match d with
  | .tup ds => some (.tup (cutD ds lo hi))
  | .str x => if x.length ≤ sizeLine then some (.str (cutS x lo hi)) else none
  | d => (hc.lst? d).map fun ds => .lst (cutD ds lo hi)
theorem RelDs.cut {g : Gx} {z : Fz} {ds : List D} {xs : List V} (r : RelDs g z ds xs) (lo hi : Option Int) : RelDs g z (cutD ds lo hi) (cutV xs lo hi) := by
  unfold cutD cutV
  rw [r.length]
  exact (r.drop _).take _
/-- a part of a slice: left out, or an int -/
def nO : Sl → Hc → Res (Option Int) := fun _ hc => .ok none hc
def sO (f : Sl → Hc → Res D) : Sl → Hc → Res (Option Int) := fun sl hc => (f sl hc).bind fun d hc1 => match d with
  | .int i => .ok (some i) hc1
  | _ => .bad
def slE (fa : Sl → Hc → Res D) (fl fh : Sl → Hc → Res (Option Int)) : Sl → Hc → Res D := fun sl hc => (fa sl hc).bind fun d hc1 => (fl sl hc1).bind fun lo hc2 => (fh sl hc2).bind fun hi hc3 => lift (slD hc3 d lo hi) hc3
def OutO (g : Gx) (W : WX) (z : Fz) (H : Hp) (σ : St) (r : Res (Option Int)) (Q : Option Int → Hp → Prop) : Prop := match r with
  | .ok b hc => ∀ z' H', Ext z H z' H' → StR g z' H' hc → Q b H'
  | .exc c hc => ∀ z' H', Ext z H z' H' → StR g z' H' hc → W (.ref (g.fa c)) none σ H'
  | .bad => False
def oI (g : Gx) (W : WX) (f : Sl → Hc → Res (Option Int)) : TO := fun σ H Q => ∃ z sl hc, Sv g z sl σ ∧ StR g z H hc ∧ OutO g W z H σ (f sl hc) Q
theorem oI.mono {g : Gx} {W : WX} {f : Sl → Hc → Res (Option Int)} {σ : St} {H : Hp} {Q Q' : Option Int → Hp → Prop} (h : oI g W f σ H Q) (k : ∀ v H, Q v H → Q' v H) : oI g W f σ H Q' := by
  obtain ⟨z, sl, hc, hs, st, h⟩ := h
  refine ⟨z, sl, hc, hs, st, ?_⟩
  revert h
  cases f sl hc with
  | ok d h => exact fun o z' H' x s => k _ _ (o z' H' x s)
  | exc c h => exact fun o => o
  | bad => exact fun o => o
theorem OutE.thenO {g : Gx} {W : WX} {z : Fz} {H : Hp} {σ : St} {sl : Sl} {hc : Hc} {f : Sl → Hc → Res (Option Int)} {k : Option Int → Hc → Res D} {Q : VK} (hs : Sv g z sl σ) (st : StR g z H hc) (h : OutE g W z H σ ((f sl hc).bind k) Q) :
    oI g W f σ H fun b H1 => ∃ z1 hc1, Ext z H z1 H1 ∧ Sv g z1 sl σ ∧ StR g z1 H1 hc1 ∧ OutE g W z1 H1 σ (k b hc1) Q := by
  refine ⟨z, sl, hc, hs, st, ?_⟩
  cases e : f sl hc with
  | ok d hc1 => rw [e] at h; exact fun z' H' x s => ⟨z', hc1, x, hs.ext x, s, OutE.ext h x⟩
  | exc c hc1 => rw [e] at h; exact h
  | bad => rw [e] at h; exact h
theorem po_imp {X : Cx} {e : Option Expr} {t u : TO} (h : PO X e t) (k : ∀ σ H Q, u σ H Q → t σ H Q) : PO X e u := ⟨fun pins s σ H Q I hu => h.run pins s σ H Q I (k σ H Q hu)⟩
section
variable {X : Cx} {g : Gx} {W : WX} {k : Nat} {a : Expr} {fa : Sl → Hc → Res D} {fl fh : Sl → Hc → Res (Option Int)} {lo hi : Option Expr} {pos p2 : Pos}
theorem p_no : PO X none (oI g W nO) := po_imp po_none fun σ H Q ⟨z, sl, hc, hs, st, h⟩ => h z H (.refl z H) st
theorem p_some (ha : PE X a (tI g W fa)) : PO X (some a) (oI g W (sO fa)) := by
  refine po_imp (po_some ha) fun σ H Q ⟨z, sl, hc, hs, st, h⟩ => ?_
  refine ⟨z, sl, hc, hs, st, ?_⟩
  unfold sO at h
  revert h
  cases fa sl hc with
  | ok d hc1 =>
    intro h z' H' v x s r
    cases r with
    | int i => exact ⟨i, rfl, h z' H' x s⟩
    | _ => exact h.elim
  | exc c h => exact fun o => o
  | bad => exact fun o => o
theorem o_sl (c : Ct X g W k) : SlR X (fun x lo hi H Q => ∃ z hc d r, StR g z H hc ∧ RelD g z d x ∧ slD hc d lo hi = some r ∧ ∀ z' H' v, Ext z H z' H' → StR g z' H' hc → RelD g z' r v → Q v H') := by
  intro pins s σ H x v vl vu lo hi sl Q I rx hs pl pu ⟨z, hc, d, r, st, r1, er, q⟩
  have lists : ∀ (h : ((hc.lst? d).map fun ds => D.lst (cutD ds lo hi)) = some r), ∃ a xs, x = .ref a ∧ SqL X.K H a xs ∧ ∀ p, H p = none → Q (.ref p) (upd H p (.lst (cutV xs lo hi))) := fun h => by
    obtain ⟨ds, h1, rfl⟩ := Option.map_eq_some_iff.mp h
    obtain ⟨a, xs, rfl, hl, rl⟩ := st.list h1 r1
    refine ⟨a, xs, rfl, by rw [c.hK]; exact hl, fun p hp => ?_⟩
    obtain ⟨z2, x2, s2, r2⟩ := st.newLst hp (rl.cut lo hi)
    exact q _ _ _ x2 s2 r2
  cases r1 with
  | tup h1 q1 =>
    cases er
    refine sl_tupA pins s σ H _ v vl vu lo hi sl Q I rx hs pl pu ⟨_, _, rfl, by rw [c.hK]; exact SqT.mono st.sub h1, fun e => ?_, fun _ p hp => ?_⟩
    · rename_i aa xs ds
      have e2 : cutD ds lo hi = ds := by
        unfold cutD
        rw [q1.length, e.1, e.2, List.drop_zero, Nat.sub_zero, ← q1.length, List.take_length]
      rw [e2] at q
      exact plain st q (.tup h1 q1)
    · obtain ⟨z2, x2, s2, r2⟩ := st.newTup hp (q1.cut lo hi)
      exact q _ _ _ x2 s2 r2
  | str t =>
    simp only [slD] at er
    split at er
    · rename_i hl
      cases er
      exact sl_str pins s σ H _ v vl vu lo hi sl Q I rx hs pl pu ⟨t, rfl, hl, plain st q (.str _)⟩
    · cases er
  | lst h1 q1 => exact sl_list pins s σ H _ v vl vu lo hi sl Q I rx hs pl pu (lists er)
  | kl h1 q1 => exact sl_list pins s σ H _ v vl vu lo hi sl Q I rx hs pl pu (lists er)
  | loc h1 => exact sl_list pins s σ H _ v vl vu lo hi sl Q I rx hs pl pu (lists er)
  | _ => cases er
theorem e_sl (c : Ct X g W k) (ha : PE X a (tI g W fa)) (hl : PO X lo (oI g W fl)) (hh : PO X hi (oI g W fh)) : PE X (.Subscript a (.Slice lo hi none p2) pos) (tI g W (slE fa fl fh)) := by
  refine pe_imp (pe_slice (o_sl c) ha hl hh) fun σ H Q ⟨z, sl, hc, hs, st, h⟩ => ?_
  refine tI.mono (OutE.thenE (f := fa) hs st h) fun v H1 ⟨z1, d1, hc1, x1, hs1, st1, r1, o1⟩ => ?_
  refine oI.mono (OutE.thenO (f := fl) hs1 st1 o1) fun l H2 ⟨z2, hc2, x2, hs2, st2, o2⟩ => ?_
  refine oI.mono (OutE.thenO (f := fh) hs2 st2 o2) fun u H3 ⟨z3, hc3, x3, hs3, st3, o3⟩ => ?_
  obtain ⟨rr, er, hq⟩ := o3.lift
  exact ⟨z3, hc3, d1, rr, st3, (r1.mono x2.le).mono x3.le, er, hq⟩
end

/-! ### built-ins called by their names -/
section
variable {X : Cx} {g : Gx} {W : WX} {k : Nat} {a : Expr} {es : List Expr} {fs : Sl → Hc → Res (List D)} {x : Str} {p pos : Pos} {id T : String} {op : Hc → List D → Option D}
theorem read_bl {σ : St} {H : Hp} {Q : VK} (h : tI g W (blE op fs) σ H Q) : tCB (rA g op) (aI g W fs) σ H Q := by
  obtain ⟨z, sl, hc, hs, st, h⟩ := h
  refine aI.mono (OutE.thenA (f := fs) hs st h) fun vs H1 ⟨z1, ds, hc1, x1, hs1, st1, r1, o1⟩ => ?_
  obtain ⟨rr, er, hq⟩ := o1.lift
  exact ⟨z1, hc1, ds, rr, st1, r1, er, hq⟩
theorem e_blt (h : CallR X (.builtin id) (rA g op)) (hm : X.mg x = none) (ha : PA X (a :: es) (aI g W fs)) (hg : Gl X x := by rfl) (hv : bootBuiltins x = some (.builtin id) := by decide +kernel) (hn : x ≠ "__name__" := by decide) (hdb : (x == ("__debug__" : Str)) = false := by decide)
    (he : starEach (a :: es) X.env = (false, eval a X.env) :: starEach es X.env := by rfl) (hpl : (backTo pos (starEach es X.env)).any (·.1) = false := by rfl) : PE X (.Call (.Name x p) (a :: es) [] pos) (tI g W (blE op fs)) :=
  pe_imp (pe_callB h hg hm hv ha hn hdb he hpl) fun _ _ _ => read_bl
theorem e_bty (h : CallR X (.type T) (rA g op)) (hm : X.mg x = none) (ha : PA X (a :: es) (aI g W fs)) (hg : Gl X x := by rfl) (hv : bootBuiltins x = some (.type T) := by decide +kernel) (hn : x ≠ "__name__" := by decide) (hdb : (x == ("__debug__" : Str)) = false := by decide)
    (he : starEach (a :: es) X.env = (false, eval a X.env) :: starEach es X.env := by rfl) (hpl : (backTo pos (starEach es X.env)).any (·.1) = false := by rfl) : PE X (.Call (.Name x p) (a :: es) [] pos) (tI g W (blE op fs)) :=
  pe_imp (pe_callTy h hg hm hv ha hn hdb he hpl) fun _ _ _ => read_bl
end
def lenD (hc : Hc) : List D → Option D
  | [.str x] => if x.length ≤ sizeLine then some (.int x.length) else none
  | [.tup ds] => some (.int ds.length)
  | [d] => (hc.lst? d).map fun ds => .int ds.length
  | _ => none
def intD (_ : Hc) : List D → Option D
  | [.int i] => some (.int i)
  | _ => none
def listD (hc : Hc) : List D → Option D
  | [.tup ds] => some (.lst ds)
  | [d] => (hc.lst? d).map .lst
  | _ => none
def tupleD (hc : Hc) : List D → Option D
  | [.tup ds] => some (.tup ds)
  | [d] => (hc.lst? d).map .tup
  | _ => none
def bools : List D → Option (List Bool)
  | [] => some []
  | .bl b :: r => (bools r).map (b :: ·)
  | _ => none
def allD (_ : Hc) : List D → Option D
  | [.lst ds] => (bools ds).map fun bs => .bl (bs.all id)
  | _ => none
def anyD (_ : Hc) : List D → Option D
  | [.lst ds] => (bools ds).map fun bs => .bl (bs.any id)
  | _ => none
theorem bools_rel {g : Gx} {z : Fz} : ∀ {ds : List D} {xs : List V} {bs : List Bool}, RelDs g z ds xs → bools ds = some bs → xs = bs.map V.bl
  | _, _, _, .nil, e => by cases e; rfl
  | _, _, _, .cons (.bl b) r, e => by
    obtain ⟨cs, h1, rfl⟩ := Option.map_eq_some_iff.mp (show (bools _).map (b :: ·) = some _ from e)
    rw [bools_rel r h1]; rfl
  | _, _, _, .cons .non _, e => nomatch e
  | _, _, _, .cons (.int _) _, e => nomatch e
  | _, _, _, .cons (.str _) _, e => nomatch e
  | _, _, _, .cons (.lst _ _) _, e => nomatch e
  | _, _, _, .cons (.tup _ _) _, e => nomatch e
  | _, _, _, .cons (.dct _ _ _) _, e => nomatch e
  | _, _, _, .cons (.loc _) _, e => nomatch e
  | _, _, _, .cons (.fn _) _, e => nomatch e
  | _, _, _, .cons (.ty _) _, e => nomatch e
section
variable {X : Cx} {g : Gx} {W : WX} {k : Nat}
/-- one argument -/
theorem one {g : Gx} {z : Fz} {ds : List D} {xs : List V} {d : D} (r : RelDs g z ds xs) (e : ds = [d]) : ∃ v, xs = [v] ∧ RelD g z d v := by
  subst e
  cases r with
  | cons h t => cases t; exact ⟨_, rfl, h⟩
theorem b_len (c : Ct X g W k) : CallR X (.builtin "len") (rA g lenD) := by
  intro pins s σ H xs us Q I r ⟨z, hc, ds, rr, st, rd, er, q⟩
  cases rd with
  | nil => cases er
  | cons h t => cases t with
    | cons _ _ => cases h <;> cases er
    | nil =>
      refine call_len pins s σ H _ us Q I r ?_
      have lists : ∀ {d : D} {v : V} (h : RelD g z d v) (e : ((hc.lst? d).map fun ds => D.int ds.length) = some rr), ∃ x n, [v] = [x] ∧ LenV X.K x H n ∧ Q (.int n) H := fun {d v} h e => by
        obtain ⟨es, h1, rfl⟩ := Option.map_eq_some_iff.mp e
        obtain ⟨a, ys, rfl, hl, rl⟩ := st.list h1 h
        exact ⟨_, ys.length, rfl, .inl ⟨ys, by rw [c.hK]; exact hl, rfl⟩, by rw [← rl.length]; exact plain st q (.int _)⟩
      cases h with
      | str x =>
        simp only [lenD] at er
        split at er
        · rename_i hl
          cases er
          exact ⟨_, x.length, rfl, ⟨hl, rfl⟩, plain st q (.int _)⟩
        · cases er
      | tup h1 q1 =>
        cases er
        exact ⟨_, _, rfl, .inr ⟨_, by rw [c.hK]; exact SqT.mono st.sub h1, rfl⟩, by rw [← q1.length]; exact plain st q (.int _)⟩
      | lst h1 q1 => exact lists (.lst h1 q1) er
      | kl h1 q1 => exact lists (.kl h1 q1) er
      | loc h1 => exact lists (.loc h1) er
      | _ => cases er
theorem b_int : CallR X (.type "int") (rA g intD) := by
  intro pins s σ H xs us Q I r ⟨z, hc, ds, rr, st, rd, er, q⟩
  cases rd with
  | nil => cases er
  | cons h t => cases t with
    | cons _ _ => cases h <;> cases er
    | nil =>
      refine call_int1 pins s σ H _ us Q I r ?_
      cases h with
      | int i => cases er; exact .inl ⟨i, rfl, plain st q (.int _)⟩
      | _ => cases er
theorem b_list (c : Ct X g W k) : CallR X (.type "list") (rA g listD) := by
  intro pins s σ H xs us Q I r ⟨z, hc, ds, rr, st, rd, er, q⟩
  cases rd with
  | nil => cases er
  | cons h t => cases t with
    | cons _ _ => cases h <;> cases er
    | nil =>
      refine call_list_of pins s σ H _ us Q I r ?_
      have lists : ∀ {d : D} {v : V} (h : RelD g z d v) (e : (hc.lst? d).map D.lst = some rr), ∃ p ys, [v] = [.ref p] ∧ (SqL X.K H p ys ∨ SqT X.K H p ys) ∧ ∀ l, H l = none → Q (.ref l) (upd H l (.lst ys)) := fun {d v} h e => by
        obtain ⟨es, h1, rfl⟩ := Option.map_eq_some_iff.mp e
        obtain ⟨a, ys, rfl, hl, rl⟩ := st.list h1 h
        refine ⟨a, ys, rfl, .inl (by rw [c.hK]; exact hl), fun p hp => ?_⟩
        obtain ⟨z2, x2, s2, r2⟩ := st.newLst hp rl
        exact q _ _ _ x2 s2 r2
      cases h with
      | tup h1 q1 =>
        cases er
        refine ⟨_, _, rfl, .inr (by rw [c.hK]; exact SqT.mono st.sub h1), fun p hp => ?_⟩
        obtain ⟨z2, x2, s2, r2⟩ := st.newLst hp q1
        exact q _ _ _ x2 s2 r2
      | lst h1 q1 => exact lists (.lst h1 q1) er
      | kl h1 q1 => exact lists (.kl h1 q1) er
      | loc h1 => exact lists (.loc h1) er
      | _ => cases er
theorem b_tuple (c : Ct X g W k) : CallR X (.type "tuple") (rA g tupleD) := by
  intro pins s σ H xs us Q I r ⟨z, hc, ds, rr, st, rd, er, q⟩
  cases rd with
  | nil => cases er
  | cons h t => cases t with
    | cons _ _ => cases h <;> cases er
    | nil =>
      refine call_tuple_of pins s σ H _ us Q I r ?_
      have lists : ∀ {d : D} {v : V} (h : RelD g z d v) (e : (hc.lst? d).map D.tup = some rr), ∃ p ys, [v] = [.ref p] ∧ ((SqL X.K H p ys ∧ ∀ l, H l = none → Q (.ref l) (upd H l (.tup ys))) ∨ (SqT X.K H p ys ∧ Q (.ref p) H)) := fun {d v} h e => by
        obtain ⟨es, h1, rfl⟩ := Option.map_eq_some_iff.mp e
        obtain ⟨a, ys, rfl, hl, rl⟩ := st.list h1 h
        refine ⟨a, ys, rfl, .inl ⟨by rw [c.hK]; exact hl, fun p hp => ?_⟩⟩
        obtain ⟨z2, x2, s2, r2⟩ := st.newTup hp rl
        exact q _ _ _ x2 s2 r2
      cases h with
      | tup h1 q1 =>
        cases er
        exact ⟨_, _, rfl, .inr ⟨by rw [c.hK]; exact SqT.mono st.sub h1, plain st q (.tup h1 q1)⟩⟩
      | lst h1 q1 => exact lists (.lst h1 q1) er
      | kl h1 q1 => exact lists (.kl h1 q1) er
      | loc h1 => exact lists (.loc h1) er
      | _ => cases er
theorem b_all (c : Ct X g W k) : CallR X (.builtin "all") (rA g allD) := by
  intro pins s σ H xs us Q I r ⟨z, hc, ds, rr, st, rd, er, q⟩
  cases rd with
  | nil => cases er
  | cons h t => cases t with
    | cons _ _ => cases h <;> cases er
    | nil =>
      refine cr_all c.calm pins s σ H _ us Q I r ?_
      cases h with
      | lst h1 q1 =>
        obtain ⟨bs, e1, rfl⟩ := Option.map_eq_some_iff.mp (show (bools _).map _ = some rr from er)
        have e2 := bools_rel q1 e1
        subst e2
        exact ⟨_, bs, rfl, .inl (Rd.mono st.sub h1), plain st q (.bl _)⟩
      | _ => cases er
theorem b_any (c : Ct X g W k) : CallR X (.builtin "any") (rA g anyD) := by
  intro pins s σ H xs us Q I r ⟨z, hc, ds, rr, st, rd, er, q⟩
  cases rd with
  | nil => cases er
  | cons h t => cases t with
    | cons _ _ => cases h <;> cases er
    | nil =>
      refine cr_any c.calm pins s σ H _ us Q I r ?_
      cases h with
      | lst h1 q1 =>
        obtain ⟨bs, e1, rfl⟩ := Option.map_eq_some_iff.mp (show (bools _).map _ = some rr from er)
        have e2 := bools_rel q1 e1
        subst e2
        exact ⟨_, bs, rfl, .inl (Rd.mono st.sub h1), plain st q (.bl _)⟩
      | _ => cases er
end
end Bo

set_option Elab.async false
set_option linter.all false
set_option maxRecDepth 100000
set_option maxHeartbeats 2000000
set_option autoImplicit false
/-! Bo5: isinstance, repr, join, displays of dicts. -/
namespace Bo
open PySem PySem.Spec L2

/-! ### isinstance -/
inductive Ty where
  | non | bl | int | str | lst | tup | dct
  deriving DecidableEq
def Ty.nm : Ty → String
  | .non => "NoneType" | .bl => "bool" | .int => "int" | .str => "str" | .lst => "list" | .tup => "tuple" | .dct => "dict"
def tyOf (hc : Hc) : D → Option Ty
  | .non => some .non | .bl _ => some .bl | .int _ => some .int | .str _ => some .str | .lst _ => some .lst | .tup _ => some .tup | .dct _ _ => some .dct
  | .loc n => (match hc.get n with
    | some (.lst _) => some .lst
    | _ => none)
  | _ => none
def Ty.isA (a b : Ty) : Bool := decide (a = b) || (decide (a = .bl) && decide (b = .int))
theorem kit_isA (K : PySem.W.Frag) (a b : Ty) (hb : b ≠ .non) : PySem.W.kitOne K (.type a.nm) (.type b.nm) = some (a.isA b) := by
  refine kit_ty ?_
  cases b with
  | non => exact absurd rfl hb
  | bl => cases a <;> decide +kernel
  | int => cases a <;> decide +kernel
  | str => cases a <;> decide +kernel
  | lst => cases a <;> decide +kernel
  | tup => cases a <;> decide +kernel
  | dct => cases a <;> decide +kernel
section
variable {X : Cx} {g : Gx} {W : WX} {k : Nat} {z : Fz} {H : Hp} {hc : Hc}
theorem StR.tyX (st : StR g z H hc) {d : D} {v : V} {t : Ty} (r : RelD g z d v) (e : tyOf hc d = some t) : TyX g.K H v (.type t.nm) := by
  cases r with
  | non => cases e; exact .base .non
  | bl b => cases e; exact .base (.bl b)
  | int b => cases e; exact .base (.int b)
  | str b => cases e; exact .base (.str b)
  | lst h q =>
    cases e
    rcases h with h | ⟨o, h⟩
    · exact .base (.lst (st.sub _ _ h))
    · exact .base (.frz (st.sub _ _ h))
  | kl h q => cases e
  | tup h q =>
    cases e
    rcases h with (h | ⟨o, h⟩) | ⟨o, its, n, h1, h2, _⟩
    · exact .base (.tup (st.sub _ _ h))
    · exact .fTuple (st.sub _ _ h)
    · exact .kTuple h1 h2
  | dct h l q => cases e; exact .base (.dK (st.sub _ _ h))
  | loc h =>
    rename_i n a
    unfold tyOf at e
    cases q : hc.get n with
    | none => simp [q] at e
    | some o =>
      cases o with
      | lst es =>
        simp [q] at e
        subst e
        obtain ⟨b, h1, h2, xs, h3, h4⟩ := st.obj n _ q
        rw [h] at h1; cases h1
        exact .base (.lst h3)
      | ins c fs => simp [q] at e
  | fn i => cases e
  | ty i => cases e
  | ex h => cases e
def isiD (b : Ty) (hc : Hc) (d : D) : Option D := (tyOf hc d).map fun t => .bl (t.isA b)
/-- isinstance(x, T), T a built-in class -/
theorem e_isi {a : Expr} {fa : Sl → Hc → Res D} {x : Str} {p p2 pos : Pos} (b : Ty) (c : Ct X g W k) (ha : PE X a (tI g W fa)) (hm : X.mg "isinstance" = none) (hm2 : X.mg x = none) (hb : b ≠ .non := by decide) (hg : Gl X "isinstance" := by rfl) (hg2 : Gl X x := by rfl)
    (hv2 : bootBuiltins x = some (.type b.nm) := by decide +kernel) (hn : x ≠ "__name__" := by decide) (hd : (x == ("__debug__" : Str)) = false := by decide)
    (hs : starEach [a, .Name x p2] X.env = (false, eval a X.env) :: starEach [.Name x p2] X.env := by rfl) (he : (backTo pos (starEach [.Name x p2] X.env)).any (·.1) = false := by rfl) :
    PE X (.Call (.Name "isinstance" p) [a, .Name x p2] [] pos) (tI g W (unE (isiD b) fa)) := by
  have h2 : PE X (.Name x p2) (tC (.ty b.nm)) := pe_bltn hg2 hm2 hv2 rfl hn hd
  refine pe_imp (pe_callB call_isi hg hm (by decide +kernel) (pa_cons ha (pa_cons h2 pa_nil rfl) hs) (by decide) (by decide) hs he) fun σ H Q ⟨z, sl, hc, hs, st, h⟩ => ?_
  refine tI.mono (OutE.thenE (f := fa) hs st h) fun v H1 ⟨z1, d1, hc1, x1, hs1, st1, r1, o1⟩ => ?_
  obtain ⟨rr, er, hq⟩ := o1.lift
  obtain ⟨t, e1, rfl⟩ := Option.map_eq_some_iff.mp er
  exact ⟨v, .ty b.nm, _, _, _, rfl, .ty _, by rw [c.hK]; exact st1.tyX r1 e1, kit_isA _ _ _ hb, plain st1 hq (.bl _)⟩
def isi2D (b b' : Ty) (hc : Hc) (d : D) : Option D := (tyOf hc d).map fun t => .bl (t.isA b || t.isA b')
/-- isinstance(x, (S, T)) -/
theorem e_isi2 {a : Expr} {fa : Sl → Hc → Res D} {x y : Str} {p p2 p3 pt pos : Pos} {kk : Nat} (b b' : Ty) (c : Ct X g W k) (ha : PE X a (tI g W fa)) (hm : X.mg "isinstance" = none) (hm2 : X.mg x = none) (hm3 : X.mg y = none) (hb : b ≠ .non := by decide) (hb' : b' ≠ .non := by decide) (hg : Gl X "isinstance" := by rfl) (hg2 : Gl X x := by rfl) (hg3 : Gl X y := by rfl)
    (hv2 : bootBuiltins x = some (.type b.nm) := by decide +kernel) (hv3 : bootBuiltins y = some (.type b'.nm) := by decide +kernel) (hn : x ≠ "__name__" := by decide) (hd : (x == ("__debug__" : Str)) = false := by decide) (hn3 : y ≠ "__name__" := by decide) (hd3 : (y == ("__debug__" : Str)) = false := by decide)
    (hs : starEach [a, .Tuple [.Name x p2, .Name y p3] kk pt] X.env = (false, eval a X.env) :: starEach [.Tuple [.Name x p2, .Name y p3] kk pt] X.env := by rfl) (he : (backTo pos (starEach [.Tuple [.Name x p2, .Name y p3] kk pt] X.env)).any (·.1) = false := by rfl) :
    PE X (.Call (.Name "isinstance" p) [a, .Tuple [.Name x p2, .Name y p3] kk pt] [] pos) (tI g W (unE (isi2D b b') fa)) := by
  have h2 : PE X (.Name x p2) (tC (.ty b.nm)) := pe_bltn hg2 hm2 hv2 rfl hn hd
  have h3 : PE X (.Name y p3) (tC (.ty b'.nm)) := pe_bltn hg3 hm3 hv3 rfl hn3 hd3
  refine pe_imp (pe_callB call_isiT hg hm (by decide +kernel) (pa_cons ha (pa_cons (pe_tup (pa_cons h2 (pa_cons h3 pa_nil rfl) rfl)) pa_nil rfl) hs) (by decide) (by decide) hs he) fun σ H Q ⟨z, sl, hc, hs, st, h⟩ => ?_
  refine tI.mono (OutE.thenE (f := fa) hs st h) fun v H1 ⟨z1, d1, hc1, x1, hs1, st1, r1, o1⟩ => ?_
  obtain ⟨rr, er, hq⟩ := o1.lift
  obtain ⟨t, e1, rfl⟩ := Option.map_eq_some_iff.mp er
  refine ⟨by show 2 ≤ sizeLine; decide, fun q hqn => ?_⟩
  obtain ⟨xx, ss⟩ := st1.alloc (o := .tup [.ty b.nm, .ty b'.nm]) hqn
  refine ⟨v, q, _, _, [.type b.nm, .type b'.nm], t.isA b || t.isA b', rfl, upd_same, .cons (.ty _) (.cons (.ty _) .nil), by rw [c.hK]; exact ss.tyX (r1.mono xx.le) e1, ?_, hq _ _ _ xx ss (.bl _)⟩
  refine kitAny_cons (kit_isA _ _ _ hb) (fun e => ?_) (fun e => by rw [e]; rfl)
  rw [e, Bool.false_or]
  exact kitAny_cons (kit_isA _ _ _ hb') (fun e => by rw [e]; exact kitAny_nil) (fun e => by rw [e])
end

/-! ### repr -/
def flatD : D → Bool
  | .non | .bl _ | .int _ | .str _ => true
  | _ => false
def keyPy : Key → PyData
  | .inl i => .int i
  | .inr x => .str x
/-- what repr reads -/
def toPyR (hc : Hc) : D → Option PyData
  | .dct ks ds => if ds.all flatD then (toPys ds).map fun ps => .dict ((ks.map keyPy).zip ps) else none
  | d => toPy1 hc d
def fitsR (p : PyData) : Bool := p.showable && (decide (p.shown.length ≤ sizeLine) && decide (p.depth ≤ 64))
def reprD (hc : Hc) (d : D) : Option D := (toPyR hc d).bind fun p => if fitsR p then some (.str p.shown) else none
theorem flat_reads {g : Gx} {z : Fz} {h : Heap} : ∀ {ds : List D} {xs : List V} {us : List Value} {ps : List PyData}, RelDs g z ds xs → Vals xs us → ds.all flatD = true → toPys ds = some ps → ReadsAll h us ps []
  | _, _, _, _, .nil, .nil, _, e => by simp [toPys] at e; subst e; exact .nil
  | d :: ds, _, _, _, .cons r rs, .cons v vs, f, e => by
    rw [List.all_cons, Bool.and_eq_true] at f
    simp only [toPys, Option.bind_eq_some_iff, Option.map_eq_some_iff] at e
    obtain ⟨p, e1, ps, e2, rfl⟩ := e
    have t := flat_reads (h := h) rs vs f.2 e2
    cases r with
    | non => simp [toPy] at e1; subst e1; cases v; exact .cons .none t
    | bl b => simp [toPy] at e1; subst e1; cases v; exact .cons (.bool b) t
    | int b => simp [toPy] at e1; subst e1; obtain ⟨tk, rfl⟩ := v; exact .cons (.int b tk) t
    | str b => simp [toPy] at e1; subst e1; obtain ⟨tk, rfl⟩ := v; exact .cons (.str b tk) t
    | lst h q => exact absurd f.1 (by simp [flatD])
    | kl h q => exact absurd f.1 (by simp [flatD])
    | tup h q => exact absurd f.1 (by simp [flatD])
    | dct h l q => exact absurd f.1 (by simp [flatD])
    | loc h => exact absurd f.1 (by simp [flatD])
    | fn i => exact absurd f.1 (by simp [flatD])
    | ty i => exact absurd f.1 (by simp [flatD])
    | ex i => exact absurd f.1 (by simp [flatD])
theorem key_reads {P : Program} {w : World} {h : Heap} : ∀ {ks : List Key} {vs : List Value} {es : List DictEntry}, Pairs (mixKind P w) es (ks.zip vs) → ks.length = vs.length → ReadsAll h (es.map (·.key)) (ks.map keyPy) [] ∧ es.map (·.val) = vs
  | [], vs, es, p, e => by
    cases vs with
    | nil => cases p; exact ⟨.nil, rfl⟩
    | cons _ _ => simp at e
  | k :: ks, vs, es, p, e => by
    cases vs with
    | nil => simp at e
    | cons v vs =>
      rw [List.zip_cons_cons] at p
      cases p with
      | cons h1 h2 t =>
        obtain ⟨a, b⟩ := key_reads (h := h) t (by simpa using e)
        refine ⟨?_, by simp [h2, b]⟩
        rcases keyIs_shape h1 with ⟨i, tk, e1, e2⟩ | ⟨x, tk, e1, e2⟩
        · simp only at e1
          subst e1
          simp only [List.map_cons, e2]
          exact .cons (.int i tk) a
        · simp only at e1
          subst e1
          simp only [List.map_cons, e2]
          exact .cons (.str x tk) a
theorem KV.zip_vals : ∀ {ks : List Key} {xs : List V} {vs : List (Key × Value)}, KV (ks.zip xs) vs → ks.length = xs.length → ∃ us, vs = ks.zip us ∧ Vals xs us
  | [], xs, vs, r, e => by
    cases xs with
    | nil => cases r; exact ⟨[], rfl, .nil⟩
    | cons _ _ => simp at e
  | k :: ks, xs, vs, r, e => by
    cases xs with
    | nil => simp at e
    | cons x xs =>
      rw [List.zip_cons_cons] at r
      cases r with
      | @cons _ b _ bs h t =>
        obtain ⟨us, e1, e2⟩ := KV.zip_vals t (by simpa using e)
        obtain ⟨b1, b2⟩ := b
        obtain ⟨h1, h2⟩ := h
        simp only at h1 h2
        subst h1
        exact ⟨b2 :: us, by rw [e1]; rfl, .cons h2 e2⟩
section
variable {X : Cx} {g : Gx} {W : WX} {k : Nat} {z : Fz} {H : Hp} {hc : Hc} {pins : List (Addr × Obj)} {σ : St} {s : Shared}
theorem reads_of (hK : X.K = g.K) (I : Inv X pins σ H s) (st : StR g z H hc) {d : D} {v : V} {u : Value} {p : PyData} (r : RelD g z d v) (rv : RelV v u) (e : toPyR hc d = some p) : ∃ as, Reads s.heap u p as ∧ (p.hasDict = true → sysModules ∉ as) := by
  have other : ∀ (e : toPy1 hc d = some p), ∃ as, Reads s.heap u p as ∧ (p.hasDict = true → sysModules ∉ as) := fun e => by
    have h1 := st.data r e
    rw [← hK] at h1
    obtain ⟨as, h2⟩ := Dp.reads I p v u h1 rv
    have nd : ∀ {v : V} {p : PyData}, Dp X.K H v p → p.hasDict = false := by
      intro v p h
      refine Dp.rec (motive_1 := fun v p _ => p.hasDict = false) (motive_2 := fun vs ps _ => PyData.hasDictAll ps = false) ?_ ?_ ?_ ?_ ?_ ?_ ?_ ?_ h
      · simp [PyData.hasDict]
      · intro b; simp [PyData.hasDict]
      · intro b; simp [PyData.hasDict]
      · intro b; simp [PyData.hasDict]
      · intro a xs ds _ _ ih; simp [PyData.hasDict, ih]
      · intro a xs ds _ _ ih; simp [PyData.hasDict, ih]
      · simp [PyData.hasDictAll]
      · intro v vs d ds _ _ h1 h2; simp [PyData.hasDictAll, h1, h2]
    exact ⟨as, h2, fun q => by rw [nd h1] at q; cases q⟩
  cases r with
  | dct h l q =>
    rename_i a ks xs ds
    simp only [toPyR] at e
    split at e
    · rename_i hf
      obtain ⟨ps, e1, rfl⟩ := Option.map_eq_some_iff.mp e
      cases rv
      obtain ⟨_, hd, vs, kv, o, es, ep, ho, hx, hdt, _, pr, _⟩ := dk_of I.hok (st.sub _ _ h)
      obtain ⟨us, rfl, rvs⟩ := KV.zip_vals kv (by rw [l, q.length])
      have hlen : ks.length = us.length := by rw [l, q.length, rvs.length]
      obtain ⟨r1, r2⟩ := key_reads (h := s.heap) pr hlen
      have r3 := flat_reads (h := s.heap) q rvs hf e1
      have hl2 : (ks.map keyPy).length = ps.length := by
        have : ∀ {us : List Value} {ps : List PyData} {as : List Addr}, ReadsAll s.heap us ps as → us.length = ps.length := by
          intro us ps as h
          exact ReadsAll.rec (motive_1 := fun _ _ _ _ => True) (motive_2 := fun us ps _ _ => us.length = ps.length) trivial (fun _ => trivial) (fun _ _ => trivial) (fun _ _ => trivial) (fun _ _ _ _ _ => trivial) (fun _ _ _ _ _ => trivial) (fun _ _ _ _ _ _ _ => trivial) rfl (fun _ _ _ ih => by simp [ih]) h
        rw [List.length_map, hlen, this r3]
      refine ⟨[a], ?_, fun _ hm => ?_⟩
      · have r4 := Reads.dict (kvs := (ks.map keyPy).zip ps) (as := []) (bs := []) ho hx.1 hdt (by rw [List.map_fst_zip (by omega)]; exact r1) (by rw [List.map_snd_zip (by omega), r2]; exact r3)
        exact r4
      · have : sysModules = a := by simpa using hm
        rw [← this] at hd
        simp at hd
    · cases e
  | non => exact other e
  | bl b => exact other e
  | int b => exact other e
  | str b => exact other e
  | lst h q => exact other e
  | kl h q => exact other e
  | tup h q => exact other e
  | loc h => exact other e
  | fn h => exact other e
  | ty h => exact other e
  | ex h => exact other e
theorem b_repr (c : Ct X g W k) : CallR X (.builtin "repr") (rA g fun hc ds => match ds with
    | [d] => reprD hc d
    | _ => none) := by
  intro pins s σ H xs us Q I r ⟨z, hc, ds, rr, st, rd, er, q⟩
  cases rd with
  | nil => cases er
  | cons h t => cases t with
    | cons _ _ => cases er
    | nil =>
      obtain ⟨p, e1, e2⟩ := Option.bind_eq_some_iff.mp er
      split at e2
      · rename_i hf
        cases e2
        cases r with
        | cons rv rn =>
          cases rn
          obtain ⟨as, h1, h2⟩ := reads_of c.hK I st h rv e1
          simp only [fitsR, Bool.and_eq_true, decide_eq_true_eq] at hf
          obtain ⟨f1, f2, f3⟩ := hf
          have fin : ∀ (h' : Heap) (u : Tok) (tk : Nat), (∀ b o, s.heap.get? b = some o → h'.get? b = some o) → EP X pins σ Q (.str p.shown u) { s with heap := h', toks := tk } := fun h' u tk kp =>
            ⟨.str p.shown, H, I.kept kp, ⟨u, rfl⟩, plain st q (.str _)⟩
          have fin' : ∀ (u : Tok) (tk : Nat), EP X pins σ Q (.str p.shown u) { s with toks := tk } := fun u tk => fin s.heap u tk fun _ _ h => h
          cases h1 with
          | none =>
            refine PySem.P.repr_of_none ?_
            simp only [PyData.shown] at fin'
            exact fin' _ _
          | bool b =>
            refine PySem.P.repr_of_bool ?_
            simp only [PyData.shown] at fin'
            exact fin' _ _
          | int i t =>
            simp only [PyData.showable, decide_eq_true_eq] at f1
            refine PySem.P.repr_of_int f1 ?_
            simp only [PyData.shown] at fin'
            exact fin' _ _
          | str x t =>
            simp only [PyData.shown] at f2 fin'
            exact PySem.P.repr_of_str (fin' _ _) f2
          | list a1 a2 a3 a4 =>
            exact repr_of_reads' (.list a1 a2 a3 a4) f1 h2 c.guards (by have := c.room.un; omega) (fun _ _ h => h) fin f2
          | tuple a1 a2 a3 a4 =>
            exact repr_of_reads' (.tuple a1 a2 a3 a4) f1 h2 c.guards (by have := c.room.un; omega) (fun _ _ h => h) fin f2
          | dict a1 a2 a3 a4 a5 =>
            exact repr_of_reads' (.dict a1 a2 a3 a4 a5) f1 h2 c.guards (by have := c.room.un; omega) (fun _ _ h => h) fin f2
      · cases e2
end
end Bo

set_option Elab.async false
set_option linter.all false
set_option maxRecDepth 100000
set_option maxHeartbeats 2000000
set_option autoImplicit false
/-! Bo6: statements, targets, loops. -/
namespace Bo
open PySem PySem.Spec L2

inductive RS where
  | nx (sl : Sl) (h : Hc) | rt (d : D) (h : Hc) | bk (sl : Sl) (h : Hc) | ct (sl : Sl) (h : Hc) | exc (c : Nat) (sl : Sl) (h : Hc) | bad
def OutS (g : Gx) (W : WX) (z : Fz) (H : Hp) (r : RS) (E : Ends) : Prop := match r with
  | .nx sl hc => ∀ z' H' σ', Ext z H z' H' → Sv g z' sl σ' → StR g z' H' hc → E.nx σ' H'
  | .rt d hc => ∀ z' H' v, Ext z H z' H' → StR g z' H' hc → RelD g z' d v → E.rt v H'
  | .bk sl hc => ∀ z' H' σ', Ext z H z' H' → Sv g z' sl σ' → StR g z' H' hc → E.bk σ' H'
  | .ct sl hc => ∀ z' H' σ', Ext z H z' H' → Sv g z' sl σ' → StR g z' H' hc → E.ct σ' H'
  | .exc c sl hc => ∀ z' H' σ', Ext z H z' H' → Sv g z' sl σ' → StR g z' H' hc → W (.ref (g.fa c)) none σ' H'
  | .bad => False
def sI (g : Gx) (W : WX) (f : Sl → Hc → RS) : TS := fun E σ H => ∃ z sl hc, Sv g z sl σ ∧ StR g z H hc ∧ OutS g W z H (f sl hc) E
/-- an expression, then a statement's end -/
def Res.toS {α : Type} (r : Res α) (sl : Sl) (k : α → Hc → RS) : RS := match r with
  | .ok a h => k a h
  | .exc c h => .exc c sl h
  | .bad => .bad
section
variable {g : Gx} {W : WX} {z z1 : Fz} {H H1 : Hp} {σ : St} {sl : Sl} {hc : Hc} {E : Ends}
theorem OutS.ext {r : RS} (h : OutS g W z H r E) (x : Ext z H z1 H1) : OutS g W z1 H1 r E := by
  cases r with
  | nx sl hc => exact fun z' H' σ' y => h z' H' σ' (x.trans y)
  | rt d hc => exact fun z' H' v y => h z' H' v (x.trans y)
  | bk sl hc => exact fun z' H' σ' y => h z' H' σ' (x.trans y)
  | ct sl hc => exact fun z' H' σ' y => h z' H' σ' (x.trans y)
  | exc c sl hc => exact fun z' H' σ' y => h z' H' σ' (x.trans y)
  | bad => exact h
theorem OutS.thenE {f : Sl → Hc → Res D} {k : D → Hc → RS} (hs : Sv g z sl σ) (st : StR g z H hc) (h : OutS g W z H ((f sl hc).toS sl k) E) :
    tI g W f σ H fun v H1 => ∃ z1 d hc1, Ext z H z1 H1 ∧ Sv g z1 sl σ ∧ StR g z1 H1 hc1 ∧ RelD g z1 d v ∧ OutS g W z1 H1 (k d hc1) E := by
  refine ⟨z, sl, hc, hs, st, ?_⟩
  cases e : f sl hc with
  | ok d hc1 => rw [e] at h; exact fun z' H' v x s r => ⟨z', d, hc1, x, hs.ext x, s, r, OutS.ext h x⟩
  | exc c hc1 => rw [e] at h; exact fun z' H' x s => h z' H' σ x (hs.ext x) s
  | bad => rw [e] at h; exact h
theorem OutS.thenT {f : Sl → Hc → Res Bool} {k : Bool → Hc → RS} (hs : Sv g z sl σ) (st : StR g z H hc) (h : OutS g W z H ((f sl hc).toS sl k) E) :
    bI g W f σ H fun b H1 => ∃ z1 hc1, Ext z H z1 H1 ∧ Sv g z1 sl σ ∧ StR g z1 H1 hc1 ∧ OutS g W z1 H1 (k b hc1) E := by
  refine ⟨z, sl, hc, hs, st, ?_⟩
  cases e : f sl hc with
  | ok d hc1 => rw [e] at h; exact fun z' H' x s => ⟨z', hc1, x, hs.ext x, s, OutS.ext h x⟩
  | exc c hc1 => rw [e] at h; exact fun z' H' x s => h z' H' σ x (hs.ext x) s
  | bad => rw [e] at h; exact h
/-- other ends -/
theorem OutS.mono {r : RS} {E' : Ends} (h : OutS g W z H r E) (h1 : ∀ σ H, E.nx σ H → E'.nx σ H) (h2 : ∀ v H, E.rt v H → E'.rt v H) (h3 : ∀ σ H, E.bk σ H → E'.bk σ H) (h4 : ∀ σ H, E.ct σ H → E'.ct σ H) : OutS g W z H r E' := by
  cases r with
  | nx sl hc => exact fun z' H' σ' y a b => h1 _ _ (h z' H' σ' y a b)
  | rt d hc => exact fun z' H' v y a b => h2 _ _ (h z' H' v y a b)
  | bk sl hc => exact fun z' H' σ' y a b => h3 _ _ (h z' H' σ' y a b)
  | ct sl hc => exact fun z' H' σ' y a b => h4 _ _ (h z' H' σ' y a b)
  | exc c sl hc => exact h
  | bad => exact h
end
/-! ### blocks, small statements -/
def nS : Sl → Hc → RS := fun sl hc => .nx sl hc
def seqS (f k : Sl → Hc → RS) : Sl → Hc → RS := fun sl hc => match f sl hc with
  | .nx sl' hc' => k sl' hc'
  | r => r
def retS (f : Sl → Hc → Res D) : Sl → Hc → RS := fun sl hc => (f sl hc).toS sl fun d hc1 => .rt d hc1
def asgS (i : Nat) (f : Sl → Hc → Res D) : Sl → Hc → RS := fun sl hc => (f sl hc).toS sl fun d hc1 => .nx (sl.set i (some d)) hc1
def exS (f : Sl → Hc → Res D) : Sl → Hc → RS := fun sl hc => (f sl hc).toS sl fun _ hc1 => .nx sl hc1
def ifS (t : Sl → Hc → Res Bool) (f k : Sl → Hc → RS) : Sl → Hc → RS := fun sl hc => (t sl hc).toS sl fun b hc1 => if b then f sl hc1 else k sl hc1
section
variable {X : Cx} {g : Gx} {W : WX} {st st2 : Stmt} {rest body els : List Stmt} {f fk : Sl → Hc → RS} {e a b : Expr} {fa fb : Sl → Hc → Res D} {ft : Sl → Hc → Res Bool} {pos : Pos}
theorem s_nil : PSs X [] (sI g W nS) := pss_imp pss_nil fun E σ H ⟨z, sl, hc, hs, s, h⟩ => h z H σ (.refl z H) hs s
theorem s_seq (h1 : PS X st (sI g W f)) (h2 : PSs X rest (sI g W fk)) : PSs X (st :: rest) (sI g W (seqS f fk)) := by
  refine pss_imp (pss_cons h1 h2) fun E σ H ⟨z, sl, hc, hs, s, h⟩ => ⟨z, sl, hc, hs, s, ?_⟩
  unfold seqS at h
  revert h
  cases f sl hc with
  | nx sl' hc' => exact fun o z' H' σ' x sv st => ⟨z', sl', hc', sv, st, OutS.ext o x⟩
  | rt d h => exact fun o => o
  | bk sl' h => exact fun o => o
  | ct sl' h => exact fun o => o
  | exc c sl' h => exact fun o => o
  | bad => exact fun o => o
theorem s_one (h1 : PS X st (sI g W f)) : PSs X [st] (sI g W f) := pss_one h1
theorem s_ret (he : PE X e (tI g W fa)) : PS X (.Return (some e) pos) (sI g W (retS fa)) := by
  refine ps_imp (ps_ret he) fun E σ H ⟨z, sl, hc, hs, s, h⟩ => ?_
  refine tI.mono (OutS.thenE (f := fa) hs s h) fun v H1 ⟨z1, d1, hc1, x1, hs1, st1, r1, o1⟩ => ?_
  exact o1 z1 H1 v (.refl z1 H1) st1 r1
theorem s_pass : PS X (.Pass pos) (sI g W nS) := ps_imp ps_pass fun E σ H ⟨z, sl, hc, hs, s, h⟩ => h z H σ (.refl z H) hs s
theorem s_expr (he : PE X e (tI g W fa)) (hw : swapsWith e none pos.line X.env = pure false := by rfl) : PS X (.Expr e pos) (sI g W (exS fa)) := by
  refine ps_imp (ps_expr he hw) fun E σ H ⟨z, sl, hc, hs, s, h⟩ => ?_
  refine tI.mono (OutS.thenE (f := fa) hs s h) fun v H1 ⟨z1, d1, hc1, x1, hs1, st1, r1, o1⟩ => ?_
  exact o1 z1 H1 σ (.refl z1 H1) hs1 st1
theorem read_asg {i : Nat} {σ : St} {H : Hp} {E : Ends} (h : sI g W (asgS i fa) E σ H) : tAsg (tI g W fa) (gName i) E σ H := by
  obtain ⟨z, sl, hc, hs, s, h⟩ := h
  refine tI.mono (OutS.thenE (f := fa) hs s h) fun v H1 ⟨z1, d1, hc1, x1, hs1, st1, r1, o1⟩ => ?_
  exact o1 z1 H1 _ (.refl z1 H1) (hs1.set r1 i) st1
theorem s_set (i : Nat) {x : Str} {p2 : Pos} (hN : X.N.Nodup) (he : PE X e (tI g W fa)) (hi : X.N[i]? = some x := by rfl) (hx : Loc X.env.scope x := by first | exact Or.inl rfl | exact Or.inr rfl) (hw : swapsWith e (some (.Name x p2)) pos.line X.env = pure false := by rfl)
    (hf : X.fn x = true ∨ X.env.scope.names.lookup x = some .local := by first | exact .inl rfl | exact .inr rfl | assumption) : PS X (.Assign [.Name x p2] e pos) (sI g W (asgS i fa)) :=
  ps_imp (ps_set hN hi hx he hw hf) fun _ _ _ => read_asg
theorem s_if (hc : PT X e (bI g W ft)) (ha : PSs X body (sI g W f)) (hb : PSs X els (sI g W fk)) : PS X (.If e body els pos) (sI g W (ifS ft f fk)) := by
  refine ps_imp (ps_if hc ha hb) fun E σ H ⟨z, sl, hc, hs, s, h⟩ => ?_
  refine bI.mono (OutS.thenT (f := ft) hs s h) fun b H1 ⟨z1, hc1, x1, hs1, st1, o1⟩ => ?_
  cases b with
  | true => simp only [if_true] at o1 ⊢; exact ⟨z1, sl, hc1, hs1, st1, o1⟩
  | false => simp only [Bool.false_eq_true, if_false] at o1 ⊢; exact ⟨z1, sl, hc1, hs1, st1, o1⟩
def brS : Sl → Hc → RS := fun sl hc => .bk sl hc
def coS : Sl → Hc → RS := fun sl hc => .ct sl hc
theorem s_break : PS X (.Break pos) (sI g W brS) := ps_imp ps_break fun E σ H ⟨z, sl, hc, hs, s, h⟩ => h z H σ (.refl z H) hs s
theorem s_continue : PS X (.Continue pos) (sI g W coS) := ps_imp ps_continue fun E σ H ⟨z, sl, hc, hs, s, h⟩ => h z H σ (.refl z H) hs s
end
/-! ### a numbered list is written -/
theorem StR.write {g : Gx} {z : Fz} {H : Hp} {hc : Hc} (st : StR g z H hc) {n : Nat} {a : Addr} {o o' : Ob} {u : HO} (h : hc.get n = some o) (hr : z.ρ n = some a) (new : ObR g z (upd H a u) a o') :
    Ext z H z (upd H a u) ∧ StR g z (upd H a u) (hc.set n o') := by
  obtain ⟨b, e1, e2, e3⟩ := st.obj n o h
  rw [hr] at e1; cases e1
  have hF : ∀ b v, z.F b = some v → b ≠ a := fun b v q w => by subst w; rw [e2] at q; cases q
  refine ⟨⟨.refl z, fun b v q k => ?_, fun b v q => ?_, fun b v q k => (by rw [q] at k; cases k), fun m b q k => (by rw [q] at k; cases k)⟩, ⟨fun b v q => ?_, st.inj, fun m b q => ?_, st.fresh, fun m v q => ?_⟩⟩
  · rw [upd_ne (fun w => k n (by rw [w]; exact hr))]; exact q
  · by_cases w : b = a
    · subst w; exact ⟨u, upd_same⟩
    · exact ⟨v, by rw [upd_ne w]; exact q⟩
  · rw [upd_ne (hF b v q)]; exact st.sub b v q
  · by_cases w : b = a
    · subst w; exact ⟨u, upd_same⟩
    · obtain ⟨v, hv⟩ := st.live m b q
      exact ⟨v, by rw [upd_ne w]; exact hv⟩
  · rw [Hc.get_set] at q
    by_cases w : m = n
    · subst w
      rw [if_pos rfl, h] at q
      cases q
      exact ⟨a, hr, e2, new⟩
    · rw [if_neg w] at q
      obtain ⟨b, k1, k2, k3⟩ := st.obj m v q
      have nb : b ≠ a := fun w2 => by subst w2; exact w (st.inj m n _ k1 hr)
      refine ⟨b, k1, k2, ?_⟩
      cases v with
      | lst ds =>
        obtain ⟨xs, e1, e2⟩ := k3
        exact ⟨xs, by rw [upd_ne nb]; exact e1, e2⟩
      | ins c fs =>
        obtain ⟨dx, vs, e1, e2⟩ := k3
        exact ⟨dx, vs, by rw [upd_ne nb]; exact e1, e2⟩
theorem StR.at {g : Gx} {z : Fz} {H : Hp} {hc : Hc} (st : StR g z H hc) {n : Nat} {v : V} {ds : List D} (h : hc.get n = some (.lst ds)) (r : RelD g z (.loc n) v) : ∃ a xs, v = .ref a ∧ z.ρ n = some a ∧ H a = some (.lst xs) ∧ RelDs g z ds xs := by
  cases r with
  | loc hr =>
    obtain ⟨b, e1, e2, xs, e3, e4⟩ := st.obj n _ h
    rw [hr] at e1; cases e1
    exact ⟨_, xs, rfl, hr, e3, e4⟩
/-- o[i] = e -/
def putD (hc : Hc) (o i v : D) : Option Hc := match o, i with
  | .loc n, .int k => (match hc.get n with
    | some (.lst ds) => (ixN ds.length k).map fun j => hc.set n (.lst (ds.set j v))
    | _ => none)
  | _, _ => none
def subS (fo fi fv : Sl → Hc → Res D) : Sl → Hc → RS := fun sl hc => (fv sl hc).toS sl fun v hc1 => (fo sl hc1).toS sl fun o hc2 => (fi sl hc2).toS sl fun i hc3 => match putD hc3 o i v with
  | some hc4 => .nx sl hc4
  | none => .bad
section
variable {X : Cx} {g : Gx} {W : WX} {e o i : Expr} {fv fo fi : Sl → Hc → Res D} {pos p2 : Pos}
theorem s_sub (he : PE X e (tI g W fv)) (ho : PE X o (tI g W fo)) (hi : PE X i (tI g W fi)) (hs : swapsWithSole [.Subscript o i p2] e pos.line X.env = pure false := by rfl) (hw : swappedStores [.Subscript o i p2] e X.env = pure none := by rfl)
    (hset : ∀ u, assign (.Subscript o i p2) X.env u = (do let ov ← holding [u] (eval o X.env); let iv ← holding [u, ov] (eval i X.env); standAt p2; holding [u, ov, iv] (setItem ov iv u); release [u, ov, iv] []) := by intro _; rfl) :
    PS X (.Assign [.Subscript o i p2] e pos) (sI g W (subS fo fi fv)) := by
  refine ps_imp (ps_asg he (pg_sub ho hi set_list hset) hs hw) fun E σ H ⟨z, sl, hc, hs, s, h⟩ => ?_
  refine tI.mono (OutS.thenE (f := fv) hs s h) fun v H1 ⟨z1, d1, hc1, x1, hs1, st1, r1, o1⟩ => ?_
  refine tI.mono (OutS.thenE (f := fo) hs1 st1 o1) fun v2 H2 ⟨z2, d2, hc2, x2, hs2, st2, r2, o2⟩ => ?_
  refine tI.mono (OutS.thenE (f := fi) hs2 st2 o2) fun v3 H3 ⟨z3, d3, hc3, x3, hs3, st3, r3, o3⟩ => ?_
  have r1' := (r1.mono x2.le).mono x3.le
  have r2' := r2.mono x3.le
  cases e : putD hc3 d2 d3 d1 with
  | none => rw [e] at o3; exact o3.elim
  | some hc4 =>
    rw [e] at o3
    cases d2 with
    | loc n =>
      cases r3 with
      | int q =>
        simp only [putD] at e
        split at e
        · rename_i ds hg
          obtain ⟨j, e1, rfl⟩ := Option.map_eq_some_iff.mp e
          obtain ⟨a, xs, rfl, hr, hH, rl⟩ := st3.at hg r2'
          refine ⟨a, xs, q, j, rfl, rfl, hH, by rw [← rl.length]; exact e1, ?_⟩
          obtain ⟨xx, ss⟩ := st3.write (o' := .lst (ds.set j d1)) (u := .lst (xs.set j v)) hg hr ⟨_, upd_same, rl.set r1' j⟩
          exact o3 z3 _ σ xx hs3 ss
        · cases e
      | _ => cases e
    | _ => cases e
end
/-! ### targets -/
/-- a target: what it makes of the slots -/
def gI (g : Gx) (vs : List Nat) (ft : D → Sl → Option Sl) : TG := fun v σ H Q => ∃ z sl hc d sl', Sv g z sl σ ∧ StR g z H hc ∧ RelD g z d v ∧ ft d sl = some sl' ∧ ∀ σ', Sv g z sl' σ' → wipe σ' vs = wipe σ vs → Q σ' H
def gIs (g : Gx) (vs : List Nat) (ft : List D → Sl → Option Sl) : TGs := fun ws σ H Q => ∃ z sl hc ds sl', Sv g z sl σ ∧ StR g z H hc ∧ RelDs g z ds ws ∧ ft ds sl = some sl' ∧ ∀ σ', Sv g z sl' σ' → wipe σ' vs = wipe σ vs → Q σ' H
theorem wipe_at {σ : St} : ∀ {vs : List Nat} {i : Nat}, i ∈ vs → i < σ.length → (wipe σ vs)[i]? = some none
  | v :: vs, i, h, hl => by
    unfold wipe
    by_cases e : v = i
    · subst e
      exact List.getElem?_set_self (by rw [wipe_length]; exact hl)
    · rw [List.getElem?_set_ne e]
      rcases List.mem_cons.mp h with h | h
      · exact absurd h.symm e
      · exact wipe_at h hl
theorem wipe_set {σ : St} {vs : List Nat} {i : Nat} {o : Option V} (h : i ∈ vs) : wipe (σ.set i o) vs = wipe σ vs := by
  refine List.ext_getElem? fun j => ?_
  by_cases hj : j ∈ vs
  · by_cases hl : j < σ.length
    · rw [wipe_at hj hl, wipe_at hj (by rw [List.length_set]; exact hl)]
    · rw [List.getElem?_eq_none (by rw [wipe_length, List.length_set]; omega), List.getElem?_eq_none (by rw [wipe_length]; omega)]
  · have hn : i ≠ j := fun e => hj (e ▸ h)
    rw [wipe_out hj, wipe_out hj, List.getElem?_set_ne hn]
theorem pg_imp {X : Cx} {e : Expr} {t u : TG} (h : PG X e t) (k : ∀ v σ H Q, u v σ H Q → t v σ H Q) : PG X e u := ⟨fun pins s σ H v w Q I r hu => h.run pins s σ H v w Q I r (k v σ H Q hu)⟩
theorem pgs_imp {X : Cx} {e : List Expr} {t u : TGs} (h : PGs X e t) (k : ∀ v σ H Q, u v σ H Q → t v σ H Q) : PGs X e u := ⟨fun pins s σ H v w Q I r hu => h.run pins s σ H v w Q I r (k v σ H Q hu)⟩
def nmG (i : Nat) : D → Sl → Option Sl := fun d sl => some (sl.set i (some d))
def nilG : List D → Sl → Option Sl
  | [], sl => some sl
  | _, _ => none
def consG (f : D → Sl → Option Sl) (k : List D → Sl → Option Sl) : List D → Sl → Option Sl
  | d :: ds, sl => (f d sl).bind (k ds)
  | _, _ => none
def tupG (n : Nat) (k : List D → Sl → Option Sl) : D → Sl → Option Sl
  | .tup ds, sl => if ds.length = n then k ds sl else none
  | _, _ => none
section
variable {X : Cx} {g : Gx} {W : WX} {kk : Nat} {e : Expr} {es : List Expr} {f : D → Sl → Option Sl} {fs : List D → Sl → Option Sl} {pos : Pos} {vs : List Nat}
theorem g_name (i : Nat) {x : Str} (hN : X.N.Nodup) (hv : i ∈ vs := by decide) (hi : X.N[i]? = some x := by rfl) (hx : Loc X.env.scope x := by first | exact Or.inl rfl | exact Or.inr rfl)
    (hf : X.fn x = true ∨ X.env.scope.names.lookup x = some .local := by first | exact .inl rfl | exact .inr rfl | assumption) : PG X (.Name x pos) (gI g vs (nmG i)) := by
  refine pg_imp (pg_name hN hi hx hf) fun v σ H Q ⟨z, sl, hc, d, sl', hs, st, r, e, q⟩ => ?_
  cases e
  exact q _ (hs.set r i) (wipe_set hv)
theorem gs_nil : PGs X [] (gIs g vs nilG) := by
  refine pgs_imp pgs_nil fun v σ H Q ⟨z, sl, hc, ds, sl', hs, st, r, e, q⟩ => ?_
  cases r with
  | nil => cases e; exact ⟨rfl, q _ hs rfl⟩
  | cons _ _ => cases e
theorem gs_cons (h1 : PG X e (gI g vs f)) (h2 : PGs X es (gIs g vs fs)) (hq : (assignEach (e :: es) X.env).map (·.2) = assign e X.env :: (assignEach es X.env).map (·.2) := by rfl) : PGs X (e :: es) (gIs g vs (consG f fs)) := by
  refine pgs_imp (pgs_cons h1 h2 hq) fun v σ H Q ⟨z, sl, hc, ds, sl', hs, st, r, e, q⟩ => ?_
  cases r with
  | nil => cases e
  | cons rd rs =>
    obtain ⟨sl1, e1, e2⟩ := Option.bind_eq_some_iff.mp e
    exact ⟨_, _, rfl, z, sl, hc, _, sl1, hs, st, rd, e1, fun σ' s' w' => ⟨z, sl1, hc, _, sl', s', st, rs, e2, fun σ2 s2 w2 => q σ2 s2 (w2.trans w')⟩⟩
theorem g_tup {k n : Nat} (c : Ct X g W kk) (h : PGs X es (gIs g vs fs)) (hn : (assignEach es X.env).length = n := by rfl) (hst : (assignEach es X.env).findIdx? (·.1) = none := by rfl) : PG X (.Tuple es k pos) (gI g vs (tupG n fs)) := by
  refine pg_imp (pg_tup c.calm h hn hst) fun v σ H Q ⟨z, sl, hc, d, sl', hs, st, r, e, q⟩ => ?_
  cases r with
  | tup h1 q1 =>
    simp only [tupG] at e
    split at e
    · rename_i hl
      exact ⟨_, _, rfl, by rw [c.hK]; exact SqT.mono st.sub h1, by rw [← q1.length]; exact hl, z, sl, hc, _, sl', hs, st, q1, e, q⟩
    · cases e
  | _ => cases e
def asG (ft : D → Sl → Option Sl) (f : Sl → Hc → Res D) : Sl → Hc → RS := fun sl hc => (f sl hc).toS sl fun d hc1 => match ft d sl with
  | some sl' => .nx sl' hc1
  | none => .bad
/-- target = e -/
theorem s_asg {tg : Expr} {fa : Sl → Hc → Res D} (he : PE X e (tI g W fa)) (hg : PG X tg (gI g vs f)) (hs : swapsWithSole [tg] e pos.line X.env = pure false := by rfl) (hw : swappedStores [tg] e X.env = pure none := by rfl) (ht : (assignEach [tg] X.env).map (·.2) = [assign tg X.env] := by rfl) : PS X (.Assign [tg] e pos) (sI g W (asG f fa)) := by
  refine ps_imp (ps_asg he hg hs hw ht) fun E σ H ⟨z, sl, hc, hs, s, h⟩ => ?_
  refine tI.mono (OutS.thenE (f := fa) hs s h) fun v H1 ⟨z1, d1, hc1, x1, hs1, st1, r1, o1⟩ => ?_
  cases e : f d1 sl with
  | none => rw [e] at o1; exact o1.elim
  | some sl' =>
    rw [e] at o1
    exact ⟨z1, sl, hc1, d1, sl', hs1, st1, r1, e, fun σ' s' _ => o1 z1 H1 σ' (.refl z1 H1) s' st1⟩
end

/-! ### what is walked -/
/-- the items, behind the making of the iterator: any walk that gives them, one after another -/
def OutI (g : Gx) (z : Fz) (H : Hp) (ds : List D) (R : It → Hp → Prop) : Prop := ∀ (J : It) (G : Hp → Prop) (Y : Nat → Hp → V → Hp → Prop), Walk J ds.length G Y → (∀ z' H' hc, Ext z H z' H' → StR g z' H' hc → G H') →
  (∀ (i : Nat) (H1 : Hp) (x : V) (H2 : Hp) (z1 : Fz) (hc : Hc), i < ds.length → Ext z H z1 H1 → StR g z1 H1 hc → Y i H1 x H2 → ∃ z2 d, Ext z1 H1 z2 H2 ∧ StR g z2 H2 hc ∧ ds[i]? = some d ∧ RelD g z2 d x) → R J H
/-- what an iterable's reading asks: its items -/
def iI (g : Gx) (W : WX) (f : Sl → Hc → Res (List D)) : TI := fun σ H R => ∃ z sl hc, Sv g z sl σ ∧ StR g z H hc ∧ match f sl hc with
  | .ok ds hc1 => ∀ z1 H1, Ext z H z1 H1 → Sv g z1 sl σ → StR g z1 H1 hc1 → OutI g z1 H1 ds R
  | .exc c hc1 => ∀ z' H', Ext z H z' H' → StR g z' H' hc1 → W (.ref (g.fa c)) none σ H'
  | .bad => False
theorem pi_imp {X : Cx} {tg e : Expr} {t u : TI} (h : PI X tg e t) (k : ∀ σ H Q, u σ H Q → t σ H Q) : PI X tg e u := ⟨fun pins s σ H R I hu => h.run pins s σ H R I (k σ H R hu)⟩
/-- the items of a value -/
def itE (k : Hc → D → Option (List D)) (f : Sl → Hc → Res D) : Sl → Hc → Res (List D) := fun sl hc => (f sl hc).bind fun d hc1 => match k hc1 d with
  | some ds => .ok ds hc1
  | none => .bad
def itL (_ : Hc) : D → Option (List D)
  | .lst ds => some ds
  | _ => none
def itT (_ : Hc) : D → Option (List D)
  | .tup ds => some ds
  | _ => none
def signs (x : Str) : List D := x.cps.toList.map fun c => .str ⟨#[c]⟩
def itS (_ : Hc) : D → Option (List D)
  | .str x => some (signs x)
  | _ => none
def upTo (lo : Int) (n : Nat) : List D := (List.range n).map fun i => .int (lo + (i : Nat))
def itR (_ : Hc) : D → Option (List D)
  | .int j => if decide (-(2 ^ 62) ≤ j) && decide (j < 2 ^ 62) then some (upTo 0 j.toNat) else none
  | _ => none
section
variable {X : Cx} {g : Gx} {W : WX} {kk : Nat} {tg e : Expr} {fa : Sl → Hc → Res D} {k : Hc → D → Option (List D)} {pos p : Pos}
/-- one expression makes it -/
theorem iI.of {σ : St} {H : Hp} {R : It → Hp → Prop} (h : iI g W (itE k fa) σ H R) : tI g W fa σ H fun v H1 => ∃ z1 d hc1, StR g z1 H1 hc1 ∧ RelD g z1 d v ∧ ∃ ds, k hc1 d = some ds ∧ OutI g z1 H1 ds R := by
  obtain ⟨z, sl, hc, hs, st, h⟩ := h
  refine ⟨z, sl, hc, hs, st, ?_⟩
  unfold itE at h
  revert h
  cases fa sl hc with
  | ok d hc1 =>
    intro h z' H' v x s r
    refine ⟨z', d, hc1, s, r, ?_⟩
    simp only [Res.bind] at h
    cases e : k hc1 d with
    | some ds =>
      simp only [e] at h
      exact ⟨ds, rfl, h z' H' x (hs.ext x) s⟩
    | none => simp only [e] at h
  | exc c hc1 => exact fun h => h
  | bad => exact fun h => h
theorem i_lst (ha : PE X e (tI g W fa)) : PI X tg e (iI g W (itE itL fa)) := by
  refine pi_imp (pi_list ha) fun σ H R h => tI.mono (iI.of h) fun v H1 ⟨z1, d, hc1, st, r, ds, e, o⟩ => ?_
  cases r with
  | lst h1 q1 =>
    cases e
    refine ⟨_, rfl, ⟨_, .inl (Rd.mono st.sub h1)⟩, o _ (fun H => SqL X.K H _ _) _ (by rw [q1.length]; exact walk_list) (fun z' H' hc x s => .inl (Rd.mono s.sub (Rd.mono x.le.1 h1))) ?_⟩
    rintro i H2 x H3 z2 hc hi xx ss ⟨rfl, hx⟩
    obtain ⟨d, h2, h3⟩ := q1.getV hx
    exact ⟨z2, d, .refl _ _, ss, h2, h3.mono xx.le⟩
  | _ => cases e
theorem i_tup (c : Ct X g W kk) (ha : PE X e (tI g W fa)) : PI X tg e (iI g W (itE itT fa)) := by
  refine pi_imp (pi_tup ha) fun σ H R h => tI.mono (iI.of h) fun v H1 ⟨z1, d, hc1, st, r, ds, e, o⟩ => ?_
  have hK := c.hK
  cases r with
  | tup h1 q1 =>
    cases e
    refine ⟨_, rfl, ⟨_, by rw [hK]; exact SqT.mono st.sub h1⟩, o _ (fun H => SqT X.K H _ _) _ (by rw [q1.length]; exact walk_tup) (fun z' H' hc x s => by rw [hK]; exact SqT.mono s.sub (SqT.mono x.le.1 h1)) ?_⟩
    rintro i H2 x H3 z2 hc hi xx ss ⟨rfl, hx⟩
    obtain ⟨d, h2, h3⟩ := q1.getV hx
    exact ⟨z2, d, .refl _ _, ss, h2, h3.mono xx.le⟩
  | _ => cases e
theorem i_str (ha : PE X e (tI g W fa)) : PI X tg e (iI g W (itE itS fa)) := by
  refine pi_imp (pi_str ha) fun σ H R h => tI.mono (iI.of h) fun v H1 ⟨z1, d, hc1, st, r, ds, e, o⟩ => ?_
  cases r with
  | str x =>
    cases e
    refine ⟨x, rfl, o _ (fun _ => True) _ (by rw [signs, List.length_map, Array.length_toList]; exact walk_str) (fun _ _ _ _ _ => trivial) ?_⟩
    rintro i H2 v H3 z2 hc hi xx ss ⟨rfl, cc, hx, rfl⟩
    refine ⟨z2, .str ⟨#[cc]⟩, .refl _ _, ss, ?_, .str _⟩
    rw [signs, List.getElem?_map, Array.getElem?_toList, hx]
    rfl
  | _ => cases e
theorem i_range (ha : PE X e (tI g W fa)) (hm : X.mg "range" = none) (hg : Gl X "range" := by rfl) (hs : starEach [e] X.env = [(false, eval e X.env)] := by rfl) : PI X tg (.Call (.Name "range" p) [e] [] pos) (iI g W (itE itR fa)) := by
  refine pi_imp (pi_range1 hg hm (pa_cons ha pa_nil hs) hs) fun σ H R h => tI.mono (iI.of h) fun v H1 ⟨z1, d, hc1, st, r, ds, e, o⟩ => ?_
  cases r with
  | int j =>
    simp only [itR] at e
    split at e
    · rename_i hb
      cases e
      simp only [Bool.and_eq_true, decide_eq_true_eq] at hb
      refine ⟨j, rfl, hb.1, hb.2, o _ (fun _ => True) _ (by rw [upTo, List.length_map, List.length_range]; exact walk_range) (fun _ _ _ _ _ => trivial) ?_⟩
      rintro i H2 v H3 z2 hc hi xx ss ⟨rfl, rfl⟩
      refine ⟨z2, .int (0 + (i : Nat)), .refl _ _, ss, ?_, .int _⟩
      rw [upTo, List.length_map, List.length_range] at hi
      rw [upTo, List.getElem?_map, List.getElem?_range hi]
      rfl
    · cases e
  | _ => cases e
end
/-! ### for -/
def loopS (ft : D → Sl → Option Sl) (fb : Sl → Hc → RS) : List D → Sl → Hc → RS
  | [], sl, hc => .nx sl hc
  | d :: ds, sl, hc => match ft d sl with
    | none => .bad
    | some sl1 => match fb sl1 hc with
      | .nx sl2 hc2 => loopS ft fb ds sl2 hc2
      | .ct sl2 hc2 => loopS ft fb ds sl2 hc2
      | .bk sl2 hc2 => .nx sl2 hc2
      | r => r
def forS (ft : D → Sl → Option Sl) (fi : Sl → Hc → Res (List D)) (fb : Sl → Hc → RS) : Sl → Hc → RS := fun sl hc => (fi sl hc).toS sl fun ds hc1 => loopS ft fb ds sl hc1
section
variable {X : Cx} {g : Gx} {W : WX} {kk : Nat} {tg e : Expr} {ft : D → Sl → Option Sl} {fi : Sl → Hc → Res (List D)} {fb : Sl → Hc → RS} {body : List Stmt} {pos : Pos} {vs : List Nat}
theorem s_for (c : Ct X g W kk) (hp : PassesOwn (model X.prog X.w) X.A X.env X.xe) (hi : PI X tg e (iI g W fi)) (hg : PG X tg (gI g vs ft)) (hb : PSs X body (sI g W fb)) (hs : ∀ x, foldedSetIterable e X.env x = pure x := by intro _; rfl) :
    PS X (.For tg e body [] pos) (sI g W (forS ft fi fb)) := by
  refine ps_imp (ps_for hp c.calm hi hg hb hs) fun E σ H ⟨z, sl, hc, hs, s, h⟩ => ⟨z, sl, hc, hs, s, ?_⟩
  unfold forS at h
  revert h
  cases fi sl hc with
  | bad => exact fun h => h
  | exc c hc1 => exact fun h z' H' x st => h z' H' σ x (hs.ext x) st
  | ok ds hc1 =>
    intro h z1 H1 x1 hs1 st1 J G Y w hG hY
    have h : OutS g W z H (loopS ft fb ds sl hc1) E := h
    refine for_it w (fun i σ' H' => ∃ z' sl' hc', Ext z1 H1 z' H' ∧ Sv g z' sl' σ' ∧ StR g z' H' hc' ∧ OutS g W z' H' (loopS ft fb (ds.drop i) sl' hc') E) ⟨z1, sl, hc1, .refl _ _, hs1, st1, OutS.ext h x1⟩ ?_ ?_ ?_
    · rintro i σ' H' hi ⟨z', sl', hc', x', _, s', _⟩
      exact hG z' H' hc' x' s'
    · rintro i x σ' H' H2 hi ⟨z', sl', hc', x', sv', s', o'⟩ y
      obtain ⟨z2, d, x2, s2, hd, rd⟩ := hY i H' x H2 z' hc' hi x' s' y
      have ed : ds.drop i = d :: ds.drop (i + 1) := by
        rw [List.drop_eq_getElem_cons hi]
        rw [List.getElem?_eq_getElem hi] at hd
        cases hd
        rfl
      rw [ed] at o'
      unfold loopS at o'
      cases e1 : ft d sl' with
      | none => rw [e1] at o'; exact o'.elim
      | some sl1 =>
        rw [e1] at o'
        refine ⟨z2, sl', hc', d, sl1, sv'.ext x2, s2, rd, e1, fun σ2 sv2 _ => ⟨z2, sl1, hc', sv2, s2, ?_⟩⟩
        have o2 := OutS.ext o' x2
        simp only at o2
        revert o2
        cases fb sl1 hc' with
        | nx sl2 hc2 => exact fun o z3 H3 σ3 x3 sv3 s3 => ⟨z3, sl2, hc2, (x'.trans x2).trans x3, sv3, s3, OutS.ext o x3⟩
        | ct sl2 hc2 => exact fun o z3 H3 σ3 x3 sv3 s3 => ⟨z3, sl2, hc2, (x'.trans x2).trans x3, sv3, s3, OutS.ext o x3⟩
        | bk sl2 hc2 => exact fun o => o
        | rt d hc2 => exact fun o => o
        | exc c sl2 hc2 => exact fun o => o
        | bad => exact fun o => o
    · rintro σ' H' ⟨z', sl', hc', x', sv', s', o'⟩
      rw [List.drop_length] at o'
      exact o' z' H' σ' (.refl _ _) sv' s'
end
/-! ### while -/
def whileS (t : Sl → Hc → Res Bool) (fb : Sl → Hc → RS) : Nat → Sl → Hc → RS
  | 0, _, _ => .bad
  | n + 1, sl, hc => (t sl hc).toS sl fun b hc1 => if b then (match fb sl hc1 with
      | .nx sl2 hc2 => whileS t fb n sl2 hc2
      | .ct sl2 hc2 => whileS t fb n sl2 hc2
      | .bk sl2 hc2 => .nx sl2 hc2
      | r => r) else .nx sl hc1
section
variable {X : Cx} {g : Gx} {W : WX} {kk n : Nat} {e : Expr} {ft : Sl → Hc → Res Bool} {fb : Sl → Hc → RS} {body : List Stmt} {pos : Pos}
theorem s_while (hp : PassesOwn (model X.prog X.w) X.A X.env X.xe) (hc : PT X e (bI g W ft)) (hb : PSs X body (sI g W fb)) : PS X (.While e body [] pos) (sI g W (whileS ft fb n)) := by
  refine ps_imp (ps_while hp hc hb) fun E σ H ⟨z, sl, hc, hs, s, h⟩ => ?_
  refine ⟨fun m σ' H' => ∃ z' sl' hc', Sv g z' sl' σ' ∧ StR g z' H' hc' ∧ OutS g W z' H' (whileS ft fb m sl' hc') E, ⟨n, z, sl, hc, hs, s, h⟩, ?_⟩
  rintro m σ' H' ⟨z', sl', hc', sv', s', o'⟩
  cases m with
  | zero => exact o'.elim
  | succ m =>
    unfold whileS at o'
    refine bI.mono (OutS.thenT (f := ft) sv' s' o') fun b H1 ⟨z1, hc1, x1, hs1, st1, o1⟩ => ?_
    cases b with
    | false => simp only [Bool.false_eq_true, if_false] at o1 ⊢; exact o1 z1 H1 σ' (.refl _ _) hs1 st1
    | true =>
      simp only [if_true] at o1 ⊢
      refine ⟨fun σ3 H3 => ∃ z' sl' hc', Sv g z' sl' σ3 ∧ StR g z' H3 hc' ∧ OutS g W z' H3 (whileS ft fb m sl' hc') E, fun σ3 H3 h3 => ⟨m, Nat.lt_succ_self m, h3⟩, z1, sl', hc1, hs1, st1, ?_⟩
      revert o1
      cases fb sl' hc1 with
      | nx sl2 hc2 => exact fun o z3 H3 σ3 x3 sv3 s3 => ⟨z3, sl2, hc2, sv3, s3, OutS.ext o x3⟩
      | ct sl2 hc2 => exact fun o z3 H3 σ3 x3 sv3 s3 => ⟨z3, sl2, hc2, sv3, s3, OutS.ext o x3⟩
      | bk sl2 hc2 => exact fun o => o
      | rt d hc2 => exact fun o => o
      | exc c sl2 hc2 => exact fun o => o
      | bad => exact fun o => o
end
end Bo

set_option Elab.async false
set_option linter.all false
set_option maxRecDepth 100000
set_option maxHeartbeats 2000000
set_option autoImplicit false
/-! Bo7: comprehensions. -/
namespace Bo
open PySem PySem.Spec L2

/-! ### a place that is left out -/
def del (H : Hp) (p : Addr) : Hp := fun a => if a = p then none else H a
theorem del_same {H : Hp} {p : Addr} : del H p p = none := if_pos rfl
theorem del_ne {H : Hp} {p a : Addr} (h : a ≠ p) : del H p a = H a := if_neg h
theorem of_del {H : Hp} {p a : Addr} {o : HO} (h : del H p a = some o) : H a = some o ∧ a ≠ p := by
  by_cases e : a = p
  · subst e; rw [del_same] at h; cases h
  · rw [del_ne e] at h; exact ⟨h, e⟩
theorem del_upd {H : Hp} {p : Addr} {o : HO} : upd (del H p) p o = upd H p o := by
  funext a
  by_cases e : a = p
  · subst e; rw [upd_same, upd_same]
  · rw [upd_ne e, upd_ne e, del_ne e]
theorem del_of_upd {H : Hp} {p : Addr} {o : HO} : del (upd H p o) p = del H p := by
  funext a
  by_cases e : a = p
  · subst e; rw [del_same, del_same]
  · rw [del_ne e, del_ne e, upd_ne e]
theorem del_none {H : Hp} {p : Addr} (h : H p = none) : del H p = H := by
  funext a
  by_cases e : a = p
  · subst e; rw [del_same, h]
  · rw [del_ne e]
/-- what is at p is nobody's -/
structure Apart (z : Fz) (p : Addr) : Prop where
  nf : z.F p = none
  nr : ∀ n, z.ρ n ≠ some p
theorem ObR.fill {g : Gx} {z : Fz} {H H' : Hp} {a : Addr} {o : Ob} (k : H a = H' a) (h : ObR g z H a o) : ObR g z H' a o := by
  cases o with
  | lst ds => obtain ⟨xs, e1, e2⟩ := h; exact ⟨xs, by rw [← k]; exact e1, e2⟩
  | ins c fs => obtain ⟨dx, vs, e1, e2⟩ := h; exact ⟨dx, vs, by rw [← k]; exact e1, e2⟩
theorem StR.fill {g : Gx} {z : Fz} {H : Hp} {p : Addr} {hc : Hc} (st : StR g z (del H p) hc) : StR g z H hc where
  sub := fun a o h => (of_del (st.sub a o h)).1
  inj := st.inj
  live := fun n a h => let ⟨o, e⟩ := st.live n a h; ⟨o, (of_del e).1⟩
  fresh := st.fresh
  obj := fun n o h => by
    obtain ⟨a, e1, e2, e3⟩ := st.obj n o h
    obtain ⟨u, e4⟩ := st.live n a e1
    exact ⟨a, e1, e2, e3.fill (del_ne (of_del e4).2)⟩
theorem StR.apart {g : Gx} {z : Fz} {H : Hp} {p : Addr} {hc : Hc} (st : StR g z (del H p) hc) : Apart z p where
  nf := by
    cases e : z.F p with
    | none => rfl
    | some o => have := st.sub p o e; rw [del_same] at this; cases this
  nr := fun n e => by
    obtain ⟨o, q⟩ := st.live n p e
    rw [del_same] at q; cases q
theorem StR.hole {g : Gx} {z : Fz} {H : Hp} {p : Addr} {hc : Hc} (st : StR g z H hc) (ap : Apart z p) : StR g z (del H p) hc where
  sub := fun a o h => by
    have ne : a ≠ p := fun e => by subst e; rw [ap.nf] at h; cases h
    rw [del_ne ne]; exact st.sub a o h
  inj := st.inj
  live := fun n a h => by
    have ne : a ≠ p := fun e => by subst e; exact ap.nr n h
    obtain ⟨o, q⟩ := st.live n a h
    exact ⟨o, by rw [del_ne ne]; exact q⟩
  fresh := st.fresh
  obj := fun n o h => by
    obtain ⟨a, e1, e2, e3⟩ := st.obj n o h
    have ne : a ≠ p := fun e => by subst e; exact ap.nr n e1
    exact ⟨a, e1, e2, e3.fill (del_ne ne).symm⟩
theorem Ext.hole {z z' : Fz} {H H' : Hp} {p : Addr} {o : HO} (x : Ext z H z' H') (hp : H p = some o) (ap : Apart z p) : Ext z (del H p) z' (del H' p) ∧ Apart z' p ∧ H' p = some o := by
  have ap' : Apart z' p := ⟨by
    cases e : z'.F p with
    | none => rfl
    | some u =>
      rcases x.fNew p u e ap.nf with q | ⟨n, q⟩
      · rw [hp] at q; cases q
      · exact absurd q (ap.nr n), fun n e => by
    cases q : z.ρ n with
    | none => have := x.rNew n p e q; rw [hp] at this; cases this
    | some b => have := x.le.2 n b q; rw [e] at this; cases this; exact ap.nr n q⟩
  refine ⟨⟨x.le, fun a u h k => ?_, fun a u h => ?_, fun a u h k => ?_, fun n a h k => ?_⟩, ap', x.keep p o hp ap.nr⟩
  · obtain ⟨h1, h2⟩ := of_del h
    rw [del_ne h2]; exact x.keep a u h1 k
  · obtain ⟨h1, h2⟩ := of_del h
    obtain ⟨u', q⟩ := x.alive a u h1
    exact ⟨u', by rw [del_ne h2]; exact q⟩
  · have ne : a ≠ p := fun e => by subst e; rw [ap'.nf] at h; cases h
    rw [del_ne ne]; exact x.fNew a u h k
  · have ne : a ≠ p := fun e => by subst e; exact ap'.nr n h
    rw [del_ne ne]; exact x.rNew n a h k
theorem Ext.fill {z z' : Fz} {H H' : Hp} {p : Addr} (x : Ext z H z' (del H' p)) : Ext z H z' H' :=
  ⟨x.le, fun a u h k => (of_del (x.keep a u h k)).1, fun a u h => let ⟨o, q⟩ := x.alive a u h; ⟨o, (of_del q).1⟩, x.fNew, x.rNew⟩
theorem wipe_wipe {σ : St} {vs : List Nat} : wipe (wipe σ vs) vs = wipe σ vs := by
  refine List.ext_getElem? fun j => ?_
  by_cases hj : j ∈ vs
  · by_cases hl : j < σ.length
    · rw [wipe_at hj hl, wipe_at hj (by rw [wipe_length]; exact hl)]
    · rw [List.getElem?_eq_none (by rw [wipe_length, wipe_length]; omega), List.getElem?_eq_none (by rw [wipe_length]; omega)]
  · rw [wipe_out hj]
/-! ### the slots within a block -/
def wipeS (sl : Sl) : List Nat → Sl
  | [] => sl
  | v :: vs => (wipeS sl vs).set v none
theorem Sv.none {g : Gx} {z : Fz} {sl : Sl} {σ : St} (h : Sv g z sl σ) (i : Nat) (o : Option V) : Sv g z (sl.set i none) (σ.set i o) where
  val := fun j e q => by
    by_cases hj : i = j
    · subst hj
      by_cases hl : i < sl.length
      · rw [List.getElem?_set_self hl] at q; cases q
      · rw [List.getElem?_eq_none (by simpa using hl)] at q; cases q
    · rw [List.getElem?_set_ne hj] at q
      rw [List.getElem?_set_ne hj]
      exact h.val j e q
  len := by simp [h.len]
theorem Sv.wipe {g : Gx} {z : Fz} {sl : Sl} {σ : St} (h : Sv g z sl σ) : ∀ vs : List Nat, Sv g z (wipeS sl vs) (L2.wipe σ vs)
  | [] => h
  | v :: vs => (Sv.wipe h vs).none v .none
/-! ### list comprehensions -/
def mapC (ft : D → Sl → Option Sl) (tt : Sl → Hc → Res Bool) (fe : Sl → Hc → Res D) (sl : Sl) : List D → Hc → Res (List D)
  | [], hc => .ok [] hc
  | d :: ds, hc => match ft d sl with
    | none => .bad
    | some sl1 => (tt sl1 hc).bind fun b hc1 => if b then (fe sl1 hc1).bind fun y hc2 => (mapC ft tt fe sl ds hc2).bind fun ys hc3 => .ok (y :: ys) hc3 else mapC ft tt fe sl ds hc1
def lcE (vs : List Nat) (ft : D → Sl → Option Sl) (fi : Sl → Hc → Res (List D)) (tt : Sl → Hc → Res Bool) (fe : Sl → Hc → Res D) : Sl → Hc → Res D := fun sl hc => (fi sl hc).bind fun ds hc1 => match mapC ft tt fe (wipeS sl vs) ds hc1 with
  | .ok ys hc2 => if ys.length ≤ sizeLine then .ok (.lst ys) hc2 else .bad
  | _ => .bad
def yT : Sl → Hc → Res Bool := fun _ hc => .ok true hc
abbrev W0 : WX := fun _ _ _ _ => False
theorem pts_imp {X : Cx} {e : List Expr} {t u : TT} (h : PTs X e t) (k : ∀ σ H Q, u σ H Q → t σ H Q) : PTs X e u := ⟨fun pins s σ H Q I hu => h.run pins s σ H Q I (k σ H Q hu)⟩
section
variable {X : Cx} {g : Gx} {W : WX} {kk : Nat}
theorem ts_nil : PTs X [] (bI g W yT) := pts_imp pts_nil fun σ H Q ⟨z, sl, hc, hs, st, h⟩ => h z H (.refl z H) st
theorem ts_one {c : Expr} {f : Sl → Hc → Res Bool} (h : PT X c (bI g W f)) : PTs X [c] (bI g W f) := pts_one h
/-- a block's context -/
theorem Ct.blk (c : Ct X g W kk) (s : Shared) (H : Hp) (scope : Scope) (env : Env) (fp : List Addr) : Ct (X.blk s H scope env fp) g W0 kk := ⟨c.hK, takes0, c.calm, c.room, c.guards⟩
theorem read_lc {vs : List Nat} {ft : D → Sl → Option Sl} {fi : Sl → Hc → Res (List D)} {tt : Sl → Hc → Res Bool} {fe : Sl → Hc → Res D} {σ : St} {H : Hp} {Q : VK} (h : tI g W (lcE vs ft fi tt fe) σ H Q) :
    tLc (iI g W fi) (gI g vs ft) (bI g W0 tt) (tI g W0 fe) vs σ H Q := by
  obtain ⟨z, sl, hc, hs, s, h⟩ := h
  refine ⟨z, sl, hc, hs, s, ?_⟩
  unfold lcE at h
  revert h
  cases fi sl hc with
  | bad => exact fun h => h
  | exc c hc1 => exact fun h => h
  | ok ds hc1 =>
    intro h z1 H1 x1 hs1 st1 J G Y w hG hY D hD
    simp only [Res.bind] at h
    cases e : mapC ft tt fe (wipeS sl vs) ds hc1 with
    | bad => rw [e] at h; exact h.elim
    | exc c hc2 => rw [e] at h; exact h.elim
    | ok ys hcE =>
      rw [e] at h
      simp only at h
      split at h
      · rename_i hlen
        have apD : Apart z1 D := StR.apart (H := H1) (by rw [del_none hD]; exact st1)
        refine lc_it w (fun i H' => ∃ z' hc' acc ws, H' D = some (.lst ws) ∧ RelDs g z' acc ws ∧ Ext z1 H1 z' (del H' D) ∧ StR g z' (del H' D) hc' ∧ Apart z' D ∧ ∃ ys', mapC ft tt fe (wipeS sl vs) (ds.drop i) hc' = .ok ys' hcE ∧ acc ++ ys' = ys) ?_ ?_ ?_ ?_
        · refine ⟨z1, hc1, [], [], upd_same, .nil, ?_, ?_, apD, ys, e, rfl⟩
          · rw [del_of_upd, del_none hD]; exact .refl _ _
          · rw [del_of_upd, del_none hD]; exact st1
        · rintro i H' hi ⟨z', hc', acc, ws, h1, h2, h3, h4, h5, ys', h6, h7⟩
          exact hG z' H' hc' h3.fill h4.fill
        · rintro i x H' H2 hi ⟨z', hc', acc, ws, h1, h2, h3, h4, h5, ys', h6, h7⟩ y
          obtain ⟨z2, d, x2, s2, hd, rd⟩ := hY i H' x H2 z' hc' hi h3.fill h4.fill y
          obtain ⟨k2, a2, D2⟩ := x2.hole h1 h5
          have ed : ds.drop i = d :: ds.drop (i + 1) := by
            rw [List.drop_eq_getElem_cons hi]
            rw [List.getElem?_eq_getElem hi] at hd
            cases hd
            rfl
          rw [ed] at h6
          unfold mapC at h6
          cases e1 : ft d (wipeS sl vs) with
          | none => rw [e1] at h6; cases h6
          | some sl1 =>
            rw [e1] at h6
            have svw := ((hs1.ext (h3.fill)).ext x2).wipe vs
            refine ⟨z2, wipeS sl vs, hc', d, sl1, svw, s2, rd, e1, fun σ2 sv2 w2 => ⟨w2.trans wipe_wipe, z2, sl1, hc', sv2, s2, ?_⟩⟩
            simp only at h6
            revert h6
            cases tt sl1 hc' with
            | bad => exact fun h => nomatch h
            | exc c hcb => exact fun h => nomatch h
            | ok b hcb =>
              intro h6 z3 H3 x3 s3
              obtain ⟨k3, a3, D3⟩ := x3.hole D2 a2
              cases b with
              | false =>
                simp only [Bool.false_eq_true, if_false]
                simp only [Res.bind, Bool.false_eq_true, if_false] at h6
                exact ⟨z3, hcb, acc, ws, D3, (h2.mono x2.le).mono x3.le, h3.trans (k2.trans k3), s3.hole a3, a3, ys', h6, h7⟩
              | true =>
                simp only [if_true]
                simp only [Res.bind, if_true] at h6
                refine ⟨z3, sl1, hcb, sv2.ext x3, s3, ?_⟩
                revert h6
                cases fe sl1 hcb with
                | bad => exact fun h => nomatch h
                | exc c hcb => exact fun h => nomatch h
                | ok yd hcy =>
                  intro h6 z4 H4 v x4 s4 r4
                  obtain ⟨k4, a4, D4⟩ := x4.hole D3 a3
                  simp only at h6
                  revert h6
                  cases e2 : mapC ft tt fe (wipeS sl vs) (ds.drop (i + 1)) hcy with
                  | bad => exact fun h => nomatch h
                  | exc c hcb => exact fun h => nomatch h
                  | ok ys2 hc2 =>
                    intro h6
                    cases h6
                    have l1 := h2.length
                    have l2 : acc.length + (ys2.length + 1) = ys.length := by
                      rw [← h7]; simp
                    refine ⟨ws, D4, by omega, z4, hcy, acc ++ [yd], ws ++ [v], upd_same, (((h2.mono x2.le).mono x3.le).mono x4.le).append (.cons r4 .nil), ?_, ?_, a4, ys2, e2, by rw [← h7]; simp⟩
                    · rw [del_of_upd]; exact h3.trans (k2.trans (k3.trans k4))
                    · rw [del_of_upd]; exact s4.hole a4
        · rintro H' ⟨z', hc', acc, ws, h1, h2, h3, h4, h5, ys', h6, h7⟩
          rw [List.drop_length] at h6
          cases h6
          rw [List.append_nil] at h7
          subst h7
          obtain ⟨x2, s2⟩ := h4.alloc (o := .lst ws) (p := D) del_same
          have eH : upd (del H' D) D (.lst ws) = H' := by
            rw [del_upd]
            funext a
            by_cases ea : a = D
            · subst ea; rw [upd_same, h1]
            · rw [upd_ne ea]
          rw [eH] at x2 s2
          exact h _ _ _ (x1.trans (h3.trans x2)) s2 (.lst (Rd.of (show upd z'.F D _ D = _ from upd_same)) (h2.mono x2.le))
      · exact h.elim
/-- [elt for target in iter if ..] -/
theorem e_lc {elt tg iter : Expr} {ifs : List Expr} {scope : Scope} {pos : Pos} {ft : D → Sl → Option Sl} {fi : Sl → Hc → Res (List D)} {tt : Sl → Hc → Res Bool} {fe : Sl → Hc → Res D} (own : List (Str × Nat)) (c : Ct X g W kk) (hN : X.N.Nodup) (hi : PI X tg iter (iI g W fi))
    (ok : blkC X.N X.env.scope scope own = true)
    (hg : ∀ (s : Shared) (H : Hp) (C : Addr) (cl : List (Str × Addr)) (fp : List Addr), PG (X.blk s H scope (compEnvC scope cl C X.env) fp) tg (gI g (own.map (·.2)) ft))
    (ht : ∀ (s : Shared) (H : Hp) (C : Addr) (cl : List (Str × Addr)) (fp : List Addr), PTs (X.blk s H scope (compEnvC scope cl C X.env) fp) ifs (bI g W0 tt))
    (he : ∀ (s : Shared) (H : Hp) (C : Addr) (cl : List (Str × Addr)) (fp : List Addr), PE (X.blk s H scope (compEnvC scope cl C X.env) fp) elt (tI g W0 fe)) (hs : ∀ x, foldedSetIterable iter X.env x = pure x := by intro _; rfl) :
    PE X (.ListComp elt [⟨tg, iter, ifs, 0⟩] scope pos) (tI g W (lcE (own.map (·.2)) ft fi tt fe)) :=
  pe_imp (pe_lc (own := own) c.calm hN hi (blkOk_by ok) hg ht he hs) fun _ _ _ => read_lc
/-- name = [elt for ..] on one line -/
theorem s_setLc {y : Str} {py spos : Pos} {elt tg iter : Expr} {ifs : List Expr} {scope : Scope} {pos : Pos} {ft : D → Sl → Option Sl} {fi : Sl → Hc → Res (List D)} {tt : Sl → Hc → Res Bool} {fe : Sl → Hc → Res D} (i : Nat) (own : List (Str × Nat)) (c : Ct X g W kk) (hN : X.N.Nodup)
    (hsw : swapsWith (.ListComp elt [⟨tg, iter, ifs, 0⟩] scope pos) (some (.Name y py)) spos.line X.env = pure true) (hi : PI X tg iter (iI g W fi))
    (ok : blkC X.N X.env.scope scope own = true)
    (hg : ∀ (s : Shared) (H : Hp) (C : Addr) (cl : List (Str × Addr)) (fp : List Addr), PG (X.blk s H scope (compEnvC scope cl C X.env) fp) tg (gI g (own.map (·.2)) ft))
    (ht : ∀ (s : Shared) (H : Hp) (C : Addr) (cl : List (Str × Addr)) (fp : List Addr), PTs (X.blk s H scope (compEnvC scope cl C X.env) fp) ifs (bI g W0 tt))
    (he : ∀ (s : Shared) (H : Hp) (C : Addr) (cl : List (Str × Addr)) (fp : List Addr), PE (X.blk s H scope (compEnvC scope cl C X.env) fp) elt (tI g W0 fe)) (hy : X.N[i]? = some y := by rfl) (hyl : X.env.scope.names.lookup y = some .local := by rfl) (hs : ∀ x, foldedSetIterable iter X.env x = pure x := by intro _; rfl) :
    PS X (.Assign [.Name y py] (.ListComp elt [⟨tg, iter, ifs, 0⟩] scope pos) spos) (sI g W (asgS i (lcE (own.map (·.2)) ft fi tt fe))) := by
  refine ps_imp (ps_setLc (own := own) c.calm hN hy hyl hsw hi (blkOk_by ok) hg ht he hs) fun E σ H ⟨z, sl, hc, hs, s, h⟩ => ?_
  refine read_lc (tI.mono (OutS.thenE (f := lcE (own.map (·.2)) ft fi tt fe) hs s h) fun v H1 ⟨z1, d1, hc1, x1, hs1, st1, r1, o1⟩ => ?_)
  exact o1 z1 H1 _ (.refl z1 H1) (hs1.set r1 i) st1
end
end Bo

set_option Elab.async false
set_option linter.all false
set_option maxRecDepth 100000
set_option maxHeartbeats 2000000
set_option autoImplicit false
/-! Bo8: defs, calls, new numbered lists. -/
namespace Bo
open PySem PySem.Spec L2

def OutC (g : Gx) (z : Fz) (H : Hp) (r : Res D) (Q : VK) (E : XK) : Prop := match r with
  | .ok d hc => ∀ z' H' v, Ext z H z' H' → StR g z' H' hc → RelD g z' d v → Q v H'
  | .exc c hc => ∀ z' H', Ext z H z' H' → StR g z' H' hc → E (.ref (g.fa c)) none H'
  | .bad => False
/-- a def does what cl says, called with room for k -/
structure FnI (P : Program) (w : World) (K : PySem.W.Frag) (mg : Str → Option Value) (base : Heap) (g : Gx) (k : Nat) (f : Addr) (fd : FuncData) (ps : List Str) (cl : List D → Hc → Res D) : Prop where
  len : ∀ ds hc, cl ds hc = .bad ∨ ds.length = ps.length
  run : ∀ (A : Around) (outer : List Env) (s : Shared) (H : Hp) (args : Args) (us : List Value) (vs : List V) (z : Fz) (hc : Hc) (ds : List D) (Q : VK) (E : XK), Room k A → A.guards = some [] → Env0 P w K mg base A outer s H → BindsTo s fd args (ps.zip us) → Vals vs us →
    StR g z H hc → RelDs g z ds vs → OutC g z H (cl ds hc) Q E → codeAny (model P w) A (.call (.ref f) args) (CR (L2.CX P w) outer P w H s Q E) s
def startS (n : Nat) (ds : List D) : Sl := ds.map some ++ List.replicate (n - ds.length) none
def fnR (np n : Nat) (body : Sl → Hc → RS) : List D → Hc → Res D := fun ds hc => if ds.length = np then (match body (startS n ds) hc with
  | .rt d h => .ok d h
  | .nx _ h => .ok .non h
  | .exc c _ h => .exc c h
  | _ => .bad) else .bad
theorem Sv.start {g : Gx} {z : Fz} {ds : List D} {vs : List V} {N : List Str} (r : RelDs g z ds vs) (hl : vs.length ≤ N.length) : Sv g z (startS N.length ds) (start N vs) where
  val := fun i d e => by
    unfold startS at e
    unfold L2.start
    have hlen := r.length
    by_cases hi : i < ds.length
    · rw [List.getElem?_append_left (by simpa using hi), List.getElem?_map] at e
      rw [List.getElem?_append_left (by rw [List.length_map]; omega), List.getElem?_map]
      cases q : ds[i]? with
      | none => rw [q] at e; cases e
      | some d' =>
        rw [q] at e
        cases e
        obtain ⟨v, h1, h2⟩ := r.get q
        exact ⟨v, by rw [h1]; rfl, h2⟩
    · rw [List.getElem?_append_right (by simpa using hi), List.getElem?_replicate] at e
      split at e <;> cases e
  len := by
    have hlen := r.length
    unfold startS L2.start
    simp only [List.length_append, List.length_map, List.length_replicate]
    omega
section
variable {P : Program} {w : World} {K : PySem.W.Frag} {mg : Str → Option Value} {base : Heap} {g : Gx} {k : Nat} {f : Addr} {fd : FuncData} {x qual : Str} {params : Arguments} {body : List Stmt} {scope : Scope} {dvs : List V} {kws : List (Str × V)} {N ps : List Str} {fb : Sl → Hc → RS}
/-- the context of a def's body -/
abbrev cxB (P : Program) (w : World) (K : PySem.W.Frag) (mg : Str → Option Value) (base : Heap) (N : List Str) (qual : Str) (scope : Scope) (f : Addr) (cdv : Value) (A : Around) (outer : List Env) (s : Shared) (H : Hp) (E : XK) : Cx :=
  cxOf (L2.CX P w) P w K mg base N qual scope f cdv A outer s H E
theorem fn_body (F : FunD K x qual params body scope dvs kws f fd) (S : FnScope N ps scope) (hgK : K = g.K)
    (hb : ∀ (cdv : Value) (A : Around) (outer : List Env) (s : Shared) (H : Hp) (E : XK), Ct (cxB P w K mg base N qual scope f cdv A outer s H E) g (fun cls d _ H => E cls d H) k → PassesOwn (model P w) (cxB P w K mg base N qual scope f cdv A outer s H E).A (cxB P w K mg base N qual scope f cdv A outer s H E).env (cxB P w K mg base N qual scope f cdv A outer s H E).xe →
      PSs (cxB P w K mg base N qual scope f cdv A outer s H E) body (sI g (fun cls d _ H => E cls d H) fb)) :
    FnI P w K mg base g (k + 1) f fd ps (fnR ps.length N.length fb) := by
  obtain ⟨oc, od, dV, kV, doc, pm, an, cdv, ct, osl, rfl, lk, hcd, _, _⟩ := F.ex
  refine ⟨fun ds hc => ?_, fun A outer s H args us vs z hc ds Q E hr hgd e0 hbd rv st rd o => ?_⟩
  · unfold fnR
    by_cases h : ds.length = ps.length
    · exact .inr h
    · exact .inl (if_neg h)
  by_cases hl : ds.length = ps.length
  · have o' : OutC g z H (match fb (startS N.length ds) hc with
      | .rt d h => .ok d h
      | .nx _ h => .ok .non h
      | .exc c _ h => .exc c h
      | _ => .bad) Q E := by
      unfold fnR at o
      rw [if_pos hl] at o
      exact o
    have hlv : vs.length = ps.length := by rw [← rd.length]; exact hl
    have hpl : ps.length ≤ N.length := by
      have q := congrArg List.length S.pre
      rw [List.length_take] at q
      omega
    have inK : K.In s.heap := e0.mod.kin.keeps fun b o e => (e0.bs b o e).1
    have noL : s.heap.NoLimit := e0.mod.nolimit.keeps fun b o e => (e0.bs b o e).1
    have kinds : ∀ y ∈ ps.zip us, scope.names.lookup y.1 = some .local ∨ (scope.names.lookup y.1 = some .cell ∧ ((cellsFrom (s.heap.objs.size + 1) scope.names []).lookup y.1).isSome = true) := by
      rintro ⟨n, v⟩ hy
      rcases S.par n (List.of_mem_zip hy).1 with q | q
      · exact .inl q
      · exact .inr ⟨q, PySem.W.cellsFrom_some _ _ _ (.inl q)⟩
    refine codeAny_call_function hr.depth (inK _ _ lk) rfl S.co S.gen rfl (PySem.W.codeRec_of inK hcd) (hbd _ _ _ _ ?_)
    refine wpAny_newFunctionEnv_cells S.kind kinds fun env he s1 xx => ?_
    subst he
    refine ⟨noL.keeps xx.toInCall.keep, codeAny_func ?_⟩
    have I : Inv (cxB P w K mg base N qual scope f cdv A outer s H E) [] (start N vs) H s1 := inv_start S hr.hd e0 hlv rv xx
    have C : Ct (cxB P w K mg base N qual scope f cdv A outer s H E) g (fun cls d _ H => E cls d H) k := ⟨hgK, takes_of rfl rfl rfl rfl, rfl, hr.deeper _, hgd⟩
    have body := hb cdv A outer s H E C (passes_of rfl)
    have rd0 : sI g (fun cls d _ H => E cls d H) fb { nx := fun _ H' => Q .non H', rt := Q } (start N vs) H := by
      refine ⟨z, startS N.length ds, hc, Sv.start rd (by omega), st, ?_⟩
      revert o'
      cases fb (startS N.length ds) hc with
      | rt d h => exact fun o => o
      | nx sl h => exact fun o z' H' σ' x' _ s' => o z' H' .non x' s' .non
      | exc c sl h => exact fun o z' H' σ' x' _ s' => o z' H' x' s'
      | bk sl h => exact fun o => o.elim
      | ct sl h => exact fun o => o.elim
      | bad => exact fun o => o
    refine wpAny_mono (body.run [] s1 (start N vs) H _ I rd0) (fun fl s' hs => ?_) fun e s' hs => hs
    cases fl with
    | ret u =>
      obtain ⟨v, σ', H', J, rv', q⟩ := hs
      exact ⟨v, H', J.os, J.bare, J.base, J.hok, rv', q⟩
    | next =>
      obtain ⟨σ', H', J, q⟩ := hs
      exact ⟨.non, H', J.os, J.bare, J.base, J.hok, rfl, q⟩
    | brk => obtain ⟨_, _, _, q⟩ := hs; exact q.elim
    | cont => obtain ⟨_, _, _, q⟩ := hs; exact q.elim
  · unfold fnR at o
    rw [if_neg hl] at o
    exact o.elim
end
/-! ### a call by name -/
def callE (cl : List D → Hc → Res D) (fs : Sl → Hc → Res (List D)) : Sl → Hc → Res D := fun sl hc => (fs sl hc).bind cl
section
variable {X : Cx} {g : Gx} {W : WX} {k : Nat} {f : Addr} {fd : FuncData} {ps : List Str} {cl : List D → Hc → Res D} {x : Str} {p pos : Pos} {a : Expr} {es : List Expr} {fs : Sl → Hc → Res (List D)}
theorem run_fnI {pins : List (Addr × Obj)} {σ : St} {H : Hp} {s : Shared} {Q : VK} {us : List Value} {vs : List V} {z : Fz} {hc : Hc} {ds : List D} (F : FnI X.prog X.w X.K X.mg X.base g k f fd ps cl) (c : Ct X g W k) (hb : Binds X.K fd ps []) (I : Inv X pins σ H s) (r : Vals vs us)
    (st : StR g z H hc) (rd : RelDs g z ds vs) (o : OutE g W z H σ (cl ds hc) Q) : wpAny (model X.prog X.w) X.A (call (.ref f) us) (EP X pins σ Q) X.xe s := by
  have o' : OutC g z H (cl ds hc) Q (WE W σ) := o
  have hl : us.length = ps.length := by
    rcases F.len ds hc with e | e
    · rw [e] at o'; exact o'.elim
    · rw [← r.length, ← rd.length]; exact e
  have bb := hb s us I.kIn (by rw [List.append_nil]; exact hl)
  rw [List.append_nil] at bb
  refine wpAny_call (codeAny_mono (F.run X.A X.stack s H ⟨us, []⟩ us vs z hc ds Q (WE W σ) c.room c.guards I.env0 bb r st rd o') fun r s' hq => ?_)
  cases r with
  | error e => exact passAt c.tk σ pins H s e s' I hq
  | ok fl =>
    cases fl with
    | ret u => exact I.after hq
    | next => exact False.elim hq
    | brk => exact False.elim hq
    | cont => exact False.elim hq
/-- what is known of a def that is called: its promise, how it binds, its name -/
structure FnT (P : Program) (w : World) (K : PySem.W.Frag) (mg : Str → Option Value) (base : Heap) (g : Gx) (k : Nat) (x : Str) (cl : List D → Hc → Res D) : Prop where
  ex : ∃ f fd ps, FnI P w K mg base g k f fd ps cl ∧ Binds K fd ps [] ∧ mg x = some (.ref f) ∧ PySem.W.keepIn K (.ref f) = true
theorem e_call (F : FnT X.prog X.w X.K X.mg X.base g k x cl) (c : Ct X g W k) (ha : PA X (a :: es) (aI g W fs)) (hg : Gl X x := by rfl) (hdb : (x == ("__debug__" : Str)) = false := by decide) (he : starEach (a :: es) X.env = (false, eval a X.env) :: starEach es X.env := by rfl)
    (hpl : (backTo pos (starEach es X.env)).any (·.1) = false := by rfl) : PE X (.Call (.Name x p) (a :: es) [] pos) (tI g W (callE cl fs)) := by
  obtain ⟨f, fd, ps, F, hb, hm, hk⟩ := F.ex
  refine ⟨fun pins s σ H Q I ⟨z, sl, hc, hs, st, h⟩ => ?_⟩
  refine wpAny_Call_Name_kw (ld_glob I hg hm ?_ hdb)
  refine PySem.W.callWith_K (h₀ := X.base) I.ok.mod.kin hk (thn (ha.run pos pins s σ H _ I (OutE.thenA (f := fs) hs st h)) fun us s1 ⟨vs, H1, I1, r, z1, ds, hc1, x1, hs1, st1, rd, o1⟩ => ⟨I1.kIn, ?_⟩) he hpl
  exact run_fnI F c hb I1 r st1 rd o1
end
/-! ### a new numbered list -/
theorem StR.newLoc {g : Gx} {z : Fz} {H : Hp} {hc : Hc} (st : StR g z H hc) {p : Addr} {u : HO} {o : Ob} (hp : H p = none) (new : ∀ z', FLe z z' → z'.ρ hc.next = some p → ObR g z' (upd H p u) p o) :
    ∃ z', Ext z H z' (upd H p u) ∧ StR g z' (upd H p u) (hc.new o) ∧ z'.ρ hc.next = some p := by
  have hF : z.F p = none := by
    cases e : z.F p with
    | none => rfl
    | some u => have := st.sub p u e; rw [hp] at this; cases this
  have hne : ∀ a v, H a = some v → a ≠ p := fun a v e q => by subst q; rw [hp] at e; cases e
  have nr := st.fresh hc.next (Nat.le_refl _)
  obtain ⟨ρ', hρ⟩ : ∃ ρ' : Nat → Option Addr, ρ' = fun n => if n = hc.next then some p else z.ρ n := ⟨_, rfl⟩
  have r1 : ρ' hc.next = some p := by rw [hρ]; exact if_pos rfl
  have r2 : ∀ n, n ≠ hc.next → ρ' n = z.ρ n := fun n h => by rw [hρ]; exact if_neg h
  have le : FLe z ⟨z.F, ρ'⟩ := ⟨fun _ _ e => e, fun n a e => by
    have : n ≠ hc.next := fun q => by subst q; rw [nr] at e; cases e
    show ρ' n = some a
    rw [r2 n this]; exact e⟩
  refine ⟨⟨z.F, ρ'⟩, ⟨le, fun a v e _ => by rw [upd_ne (hne a v e)]; exact e, fun a v e => ⟨v, by rw [upd_ne (hne a v e)]; exact e⟩, fun a v e k => ?_, fun n a e k => ?_⟩, ⟨fun a v e => ?_, fun n m a e1 e2 => ?_, fun n a e => ?_, fun n h => ?_, fun n v e => ?_⟩, r1⟩
  · have e' : z.F a = some v := e
    rw [k] at e'; cases e'
  · by_cases h : n = hc.next
    · subst h
      have e' : ρ' hc.next = some a := e
      rw [r1] at e'; cases e'; exact hp
    · have e' : ρ' n = some a := e
      rw [r2 n h, k] at e'; cases e'
  · have e' : z.F a = some v := e
    have := st.sub a v e'
    rw [upd_ne (hne a v this)]; exact this
  · have live : ∀ n, n ≠ hc.next → ρ' n ≠ some p := fun n h q => by
      rw [r2 n h] at q
      obtain ⟨v, hv⟩ := st.live n p q
      rw [hp] at hv; cases hv
    have e1' : ρ' n = some a := e1
    have e2' : ρ' m = some a := e2
    by_cases h : n = hc.next
    · by_cases h2 : m = hc.next
      · rw [h, h2]
      · subst h; rw [r1] at e1'; cases e1'; exact absurd e2' (live m h2)
    · by_cases h2 : m = hc.next
      · subst h2; rw [r1] at e2'; cases e2'; exact absurd e1' (live n h)
      · rw [r2 n h] at e1'; rw [r2 m h2] at e2'; exact st.inj n m a e1' e2'
  · have e' : ρ' n = some a := e
    by_cases h : n = hc.next
    · subst h; rw [r1] at e'; cases e'; exact ⟨u, upd_same⟩
    · rw [r2 n h] at e'
      obtain ⟨v, hv⟩ := st.live n a e'
      exact ⟨v, by rw [upd_ne (hne a v hv)]; exact hv⟩
  · have h' : hc.next + 1 ≤ n := h
    show ρ' n = none
    rw [r2 n (by omega)]
    exact st.fresh n (by omega)
  · rw [Hc.get_new] at e
    by_cases h : n = hc.next
    · rw [if_pos h] at e
      cases e
      subst h
      exact ⟨p, r1, hF, new _ le r1⟩
    · rw [if_neg h] at e
      obtain ⟨b, k1, k2, k3⟩ := st.obj n v e
      obtain ⟨v', hv'⟩ := st.live n b k1
      refine ⟨b, by show ρ' n = some b; rw [r2 n h]; exact k1, k2, ?_⟩
      cases v with
      | lst ds =>
        obtain ⟨xs, e1, e2⟩ := k3
        exact ⟨xs, by rw [upd_ne (hne b _ hv')]; exact e1, e2.mono le⟩
      | ins c fs =>
        obtain ⟨dx, vs, e1, e2⟩ := k3
        exact ⟨dx, vs, by rw [upd_ne (hne b _ hv')]; exact e1, e2.mono le⟩
def newE (fs : Sl → Hc → Res (List D)) : Sl → Hc → Res D := fun sl hc => (fs sl hc).bind fun ds hc1 => if ds.length ≤ sizeLine then .ok (.loc hc1.next) (hc1.new (.lst ds)) else .bad
theorem e_new {X : Cx} {g : Gx} {W : WX} {es : List Expr} {fs : Sl → Hc → Res (List D)} {pos : Pos} (h : PA X es (aI g W fs)) : PE X (.List es pos) (tI g W (newE fs)) := by
  refine pe_imp (pe_lst h) fun σ H Q ⟨z, sl, hc, hs, st, h⟩ => ?_
  refine aI.mono (OutE.thenA (f := fs) hs st h) fun vs H1 ⟨z1, ds, hc1, x1, hs1, st1, r1, o1⟩ => ?_
  by_cases hl : ds.length ≤ sizeLine
  · simp only [hl, if_true] at o1
    refine ⟨by rw [← r1.length]; exact hl, fun p hp => ?_⟩
    obtain ⟨z2, x2, s2, r2⟩ := st1.newLoc (o := .lst ds) (u := .lst vs) hp fun z' le _ => ⟨vs, upd_same, r1.mono le⟩
    exact o1 _ _ _ x2 s2 (.loc r2)
  · simp only [hl, if_false] at o1
    exact o1.elim
end Bo

set_option Elab.async false
set_option linter.all false
set_option maxRecDepth 100000
set_option maxHeartbeats 4000000
set_option autoImplicit false
/-! Bo9: sets of ints and texts made of a list or tuple: their length, their sorted list. -/
namespace Bo
open PySem PySem.Spec PyProof.Rows L2

/-- an element: its key -/
def kEl (e : Int × Value) : Key := match e.2 with
  | .int k _ => .inl k
  | .str x _ => .inr x
  | _ => .inl 0
def ElOk (w : World) (e : Int × Value) : Prop := ∃ k : Key, keyIs k e.2 = true ∧ e.1 = keyH w k
theorem kEl_of {k : Key} {v : Value} {n : Int} (h : keyIs k v = true) : kEl (n, v) = k := by
  rcases keyIs_shape h with ⟨i, t, rfl, rfl⟩ | ⟨x, t, rfl, rfl⟩ <;> rfl
theorem scan_of {k : Key} {v : Value} (h : keyIs k v = true) : v.scannable = true := by
  rcases keyIs_shape h with ⟨i, t, rfl, rfl⟩ | ⟨x, t, rfl, rfl⟩ <;> rfl
theorem is_kEl {w : World} {e : Int × Value} (g : ElOk w e) (k : Key) : keyIs k e.2 = true ↔ kEl e = k := by
  obtain ⟨k0, h1, _⟩ := g
  constructor
  · intro h; obtain ⟨e1, e2⟩ := e; exact kEl_of h
  · intro h
    obtain ⟨e1, e2⟩ := e
    rw [kEl_of h1] at h
    rw [← h]; exact h1
section
variable {P : Program} {w : World}
theorem els_ok {l : List (Int × Value)} (g : ∀ e ∈ l, ElOk w e) : ElemsOf (mixKind P w) l := fun e he => by
  obtain ⟨k, h1, h2⟩ := g e he
  exact ⟨⟨k, h1, h2⟩, scan_of h1⟩
theorem mem_els {l : List (Int × Value)} (g : ∀ e ∈ l, ElOk w e) (k : Key) : k ∈ l.map kEl ↔ ∃ e ∈ l, keyIs k e.2 = true := by
  rw [List.mem_map]
  exact ⟨fun ⟨e, he, q⟩ => ⟨e, he, (is_kEl (g e he) k).2 q⟩, fun ⟨e, he, q⟩ => ⟨e, he, (is_kEl (g e he) k).1 q⟩⟩
end
/-- a set of ints and texts that can be walked: its members are ks, each once -/
def SetQ (w : World) (h : Heap) (a : Addr) (ks : List Key) : Prop :=
  ∃ o es ep t, h.get? a = some o ∧ o.ExactSet ∧ o.data = .set es ep t ∧ (∀ e ∈ es.toList, ElOk w e) ∧ ks.Nodup ∧ (es.toList.map kEl).Perm ks ∧ es.size < scanBound ∧ t.fits es.size = true ∧ Ris t.place.toList ∧ (w.params.followText "set-order" = true ∨ t.led = true)
theorem SetQ.at {w : World} {h h' : Heap} {a : Addr} {ks : List Key} (R : SetQ w h a ks) (k : ∀ o, h.get? a = some o → h'.get? a = some o) : SetQ w h' a ks := by
  obtain ⟨o, es, ep, t, ho, r⟩ := R
  exact ⟨o, es, ep, t, k o ho, r⟩
/-- one more -/
def hasKey (ks : List Key) (k : Key) : Bool := ks.any fun j => decide (j = k)
theorem hasKey_iff {ks : List Key} {k : Key} : hasKey ks k = true ↔ k ∈ ks := by
  unfold hasKey
  rw [List.any_eq_true]
  exact ⟨fun ⟨j, h1, h2⟩ => of_decide_eq_true h2 ▸ h1, fun h => ⟨k, h, decide_eq_true rfl⟩⟩
def addKey (ks : List Key) (k : Key) : List Key := if hasKey ks k = true then ks else k :: ks
section
variable {P : Program} {w : World} {A : Around} {E : Value → Shared → Prop} {s : Shared} {a : Addr} {ks : List Key}
theorem put_end {give : Bool → Sem Unit} (hg : ∀ (b : Bool) (s₁ : Shared) (Q' : Unit → Shared → Prop), Q' () s₁ → wpAny (model P w) A (give b) Q' E s₁)
    {o : Obj} {es : Array (Int × Value)} {ep : Nat} {t : SetTable} (ho : s.heap.get? a = some o) (hex : o.ExactSet) (hd : o.data = .set es ep t)
    {es1 : Array (Int × Value)} {t2 : SetTable} {ks' : List Key} (g1 : ∀ e ∈ es1.toList, ElOk w e) (nd1 : ks'.Nodup) (m1 : (es1.toList.map kEl).Perm ks')
    (hb1 : es1.size < scanBound) (hf2 : t2.fits es1.size = true) (hr : Ris t2.place.toList) (hl : w.params.followText "set-order" = true ∨ t2.led = true) {was : Bool} {R : Option Bool → Shared → Prop}
    (hR : ∀ h', Heap.SameBut a s.heap h' → SetQ w h' a ks' → R (some true) { s with heap := h' }) :
    wpAny (model P w) A (do
        storeSet a es1 t2
        if (!was && t2.tooFull) = true then do
            give (relayAll t2 es1 (SetTable.grown es1.size)).2.2
            storeSet a (relayAll t2 es1 (SetTable.grown es1.size)).1 (relayAll t2 es1 (SetTable.grown es1.size)).2.1
            pure (some true)
          else pure (some true)) R E s := by
  refine wpAny_bind (wpAny_storeSet_of ho hd ?_ (fits_of_scanBound hb1))
  have k1 := store_at (es' := es1) (t' := t2) ho hd
  have b1 := Heap.SameBut.update s.heap a (Obj.putSet es1 t2)
  split
  · have pm := relayAll_perm t2 es1 (SetTable.grown es1.size)
    have f3 := relayAll_fits t2 es1 (SetTable.grown es1.size)
    have r3 := relayAll_ris t2 es1 (SetTable.grown es1.size)
    have l3 := relayAll_led t2 es1 (SetTable.grown es1.size)
    generalize relayAll t2 es1 (SetTable.grown es1.size) = Z at pm f3 r3 l3 ⊢
    obtain ⟨es2, t3, gave⟩ := Z
    dsimp only at pm f3 r3 l3 ⊢
    have hz : es2.size = es1.size := by rw [← Array.length_toList, pm.length_eq, Array.length_toList]
    have b2 : es2.size < scanBound := by rw [hz]; exact hb1
    refine wpAny_bind (hg _ _ _ (wpAny_bind (wpAny_storeSet_of k1 rfl ?_ (fits_of_scanBound b2))))
    have k2 := store_at (es' := es2) (t' := t3) k1 rfl
    exact wpAny_pure (hR _ (b1.trans (Heap.SameBut.update _ a _)) ⟨_, es2, _, t3, k2, hex, rfl, fun e he => g1 e (pm.mem_iff.mp he), nd1, (pm.map kEl).trans m1, b2, f3, r3, hl.imp id fun z => by rw [l3]; exact z⟩)
  · exact wpAny_pure (hR _ b1 ⟨_, es1, _, t2, k1, hex, rfl, g1, nd1, m1, hb1, hf2, hr, hl⟩)
theorem put_hashed {k : Key} {x : Value} {Q : Bool → Shared → Prop} (hk : keyIs k x = true) (R : SetQ w s.heap a ks) (room : ks.length + 1 < scanBound)
    (hQ : ∀ (b : Bool) h', Heap.SameBut a s.heap h' → SetQ w h' a (addKey ks k) → Q b { s with heap := h' }) :
    wpAny (model P w) A (setAddHashed a x ((mixKind P w).hash k)) Q E s := by
  obtain ⟨o, es, ep, t, ho, hex, hd, g, nd, hm, hb, hf, hr, hl⟩ := R
  have hsc := scan_of hk
  have hel : ElemsOf (mixKind P w) es.toList := els_ok g
  have hn : es.size = ks.length := by rw [← hm.length_eq, List.length_map, Array.length_toList]
  unfold setAddHashed setAddHashedIn
  refine wpAny_holding (wpAny_bind (wpAny_setState_of ho hd hf ?_))
  dsimp only
  rw [byScan_of hsc hb hel]
  simp only [↓reduceIte]
  unfold setAddByScan
  refine wpAny_bind (wpAny_bind (wpAny_rule (wpAny_bind (wpAny_setScan_of (knd := mixKind P w) hk ho hd hf hel ?_))))
  cases hfi : List.findIdx? (fun e => (mixKind P w).is k e.2) es.toList with
  | some j =>
    dsimp only
    obtain ⟨hj, pj, _⟩ := List.findIdx?_eq_some_iff_getElem.mp hfi
    have hin : k ∈ ks := hm.mem_iff.mp ((mem_els g k).2 ⟨es.toList[j], List.getElem_mem hj, pj⟩)
    have e1 : addKey ks k = ks := if_pos (hasKey_iff.mpr hin)
    refine wpAny_pure (wpAny_pure ?_)
    exact hQ _ s.heap (Heap.SameBut.refl a s.heap) (by rw [e1]; exact ⟨o, es, ep, t, ho, hex, hd, g, nd, hm, hb, hf, hr, hl⟩)
  | none =>
    dsimp only
    have hnk : k ∉ ks := fun z => by
      obtain ⟨e, he, q⟩ := (mem_els g k).1 (hm.mem_iff.mpr z)
      have c := List.findIdx?_eq_none_iff.mp hfi e he
      have q' : (mixKind P w).is k e.2 = true := q
      rw [q'] at c
      cases c
    have e1 : addKey ks k = k :: ks := if_neg fun z => hnk (hasKey_iff.mp z)
    have way : ∀ (b : Bool) {s₁ : Shared} {Q' : Unit → Shared → Prop}, Q' () s₁ → wpAny (model P w) A (match b with | true => rule "set.scan.the-table-gave-way" | false => pure ()) Q' E s₁ := by
      intro b s₁ Q' q
      cases b <;> first | exact wpAny_pure q | exact wpAny_rule q
    have pm := layNew_perm t es ((mixKind P w).hash k) x
    have f1 := layNew_fits t es ((mixKind P w).hash k) x
    have r1 := layNew_ris t es ((mixKind P w).hash k) x hr
    have l1 := layNew_led t es ((mixKind P w).hash k) x
    generalize layNew t es ((mixKind P w).hash k) x = Z at pm f1 r1 l1 ⊢
    obtain ⟨es1, t1, was, gave⟩ := Z
    dsimp only at pm f1 r1 l1 ⊢
    rw [Array.toList_push] at pm
    have pc : es1.toList.Perm (((mixKind P w).hash k, x) :: es.toList) := pm.trans (List.perm_append_singleton _ _)
    have pk : (es1.toList.map kEl).Perm (k :: ks) := by
      have q := pc.map kEl
      rw [List.map_cons, kEl_of hk] at q
      exact q.trans (hm.cons k)
    have g1 : ∀ e ∈ es1.toList, ElOk w e := fun e he => by
      rcases List.mem_cons.mp (pc.mem_iff.mp he) with z | z
      · rw [z]; exact ⟨k, hk, rfl⟩
      · exact g e z
    have nd1 : (k :: ks).Nodup := List.nodup_cons.mpr ⟨hnk, nd⟩
    have hz : es1.size = ks.length + 1 := by rw [← Array.length_toList, pc.length_eq, List.length_cons, Array.length_toList, hn]
    have b1 : es1.size < scanBound := by rw [hz]; exact room
    have led : w.params.followText "set-order" = true ∨ t1.led = true := hl.imp id fun z => by rw [l1]; exact z
    have fin : ∀ h', Heap.SameBut a s.heap h' → SetQ w h' a (k :: ks) → Q true { s with heap := h' } := fun h' sb r => hQ true h' sb (by rw [e1]; exact r)
    refine wpAny_bind (way _ ?_)
    split
    · refine wpAny_bind ?_
      rw [hashByValue_scannable 8 hsc]
      refine wpAny_pure ?_
      refine put_end ?_ ho hex hd g1 nd1 pk b1 ?_ ?_ ?_ ?_
      · intro b s₁ Q' q; exact way b q
      · first | (split <;> first | exact f1 | exact SetTable.fits_plain_off f1) | exact f1
      · first | (split <;> exact r1) | exact r1
      · first | (split <;> exact led) | exact led
      · intro h' sb r; dsimp only; exact wpAny_pure (fin h' sb r)
    · refine wpAny_bind (wpAny_pure ?_)
      simp only [↓reduceIte]
      refine put_end ?_ ho hex hd g1 nd1 pk b1 f1 r1 led ?_
      · intro b s₁ Q' q; exact way b q
      · intro h' sb r; dsimp only; exact wpAny_pure (fin h' sb r)
/-! ### set(x) -/
theorem new_set1 (v : Value) {Q₁ : Value → Shared → Prop}
    (h : Q₁ (.ref s.heap.objs.size) { s with heap := s.heap.push { cls := .type "set", dict := none, data := .set #[] 0 (.fresh 0 0 (!w.params.followText "set-order")) } }) :
    codeAny (model P w) A (.call (.builtin "set.__new__") ⟨[.type "set", v], []⟩) (wants Q₁ E) s := by
  refine codeAny_of_tree ?_
  show wpAny (model P w) A.in1 (do checkBuiltinCall "set.__new__" ⟨[.type "set", v], []⟩; again (.builtin "set.__new__" ⟨[.type "set", v], []⟩)) _ _ s
  refine wpAny_bind (wpAny_of_eq (PySem.F.newCall_set_1 v) (wpAny_pure ⟨plainId_quiet PySem.F.plain_set_new _, codeAny_builtin PySem.F.entry_set_new ?_⟩))
  rw [Around.under_plainId PySem.F.plain_set_new _]
  unfold Builtin.«set.__new__» Builtin.Frozenset.newClass
  have hsub := sub_set_self
  obtain ⟨hp, g, d, tk, os⟩ := s
  dsimp only
  wp_walk
  refine wpAny_askSetting (wpAny_pure ?_)
  dsimp only
  simp only [newObj]
  exact wpAny_bind (wpAny_alloc (wpAny_pure (wpAny_pure h)))
theorem setQ_fresh {h : Heap} (w : World) : SetQ w (h.push { cls := .type "set", dict := none, data := .set #[] 0 (.fresh 0 0 (!w.params.followText "set-order")) }) h.objs.size [] :=
  ⟨_, #[], 0, _, Heap.get?_push_size _ rfl, ⟨rfl, rfl, rfl⟩, rfl, (fun e he => by simp at he), (by simp), (by simp), (by decide), (by rfl), List.Pairwise.nil, by
    show w.params.followText "set-order" = true ∨ (!w.params.followText "set-order") = true
    cases w.params.followText "set-order" <;> simp⟩
/-- the keys of the values, each once, the last new one first -/
def addAll (ks : List Key) : List Key → List Key
  | [] => ks
  | k :: r => addAll (addKey ks k) r
theorem addKey_len (ks : List Key) (k : Key) : (addKey ks k).length ≤ ks.length + 1 := by
  unfold addKey; split <;> simp
end
section
variable {P : Program} {w : World} {A : Around} {R : Result → Shared → Prop} {I : Addr} {fp wr : List Addr} {G : Array GenState → Array GenState → Prop} {n : Nat} {Pv : Nat → Value → Prop} {St' : Nat → Shared → Prop}
theorem upd_loop (W : WalksS P w A.in1 I fp wr G n Pv St') (S : Addr) (hSf : S ∉ fp) (vals : List Key) (hn : vals.length = n) (hv : ∀ i v, Pv i v → ∃ k, vals[i]? = some k ∧ keyIs k v = true) :
    ∀ (m i : Nat) (s : Shared) (ks : List Key), n - i = m → i ≤ n → St' i s → SetQ w s.heap S ks → ks.length + m + 1 < scanBound →
      (∀ s', Moved (S :: wr) G s s' → SetQ w s'.heap S (addAll ks (vals.drop i)) → R (.ok (.ret .none)) s') →
      codeAny (model P w) A (.builtin "set.update.loop" ⟨[.ref S, .ref I], []⟩) R s := by
  have hSw : S ∉ wr := fun h => hSf (W.sub _ h)
  have sub : ∀ b ∈ wr, b ∈ S :: wr := fun b hb => List.mem_cons_of_mem _ hb
  intro m
  induction m with
  | zero =>
    intro i s ks hk hi hst hS hroom hR
    have hin : i = n := by omega
    subst hin
    refine codeAny_builtin PyProof.Rows.F.entry_set_update_loop ?_
    rw [Around.under_plainId PyProof.Rows.F.plain_set_update_loop _]
    show wpAny (model P w) A.in1 (pyNext (.ref I) >>= _) _ _ s
    refine wpAny_bind (W.done s _ _ hst fun s' hm => ?_)
    show wpAny (model P w) A.in1 (ret Value.none) _ _ s'
    refine wpAny_pure (hR s' (hm.mono sub) ?_)
    rw [← hn, List.drop_length]
    exact hS.at fun o ho => hm.heap S o hSw ho
  | succ m ih =>
    intro i s ks hk hi hst hS hroom hR
    have hlt : i < n := by omega
    refine codeAny_builtin PyProof.Rows.F.entry_set_update_loop ?_
    rw [Around.under_plainId PyProof.Rows.F.plain_set_update_loop _]
    show wpAny (model P w) A.in1 (pyNext (.ref I) >>= _) _ _ s
    refine wpAny_bind (W.item i s _ _ hlt hst fun v s' hP hst' hm => ?_)
    obtain ⟨k, hk1, hk2⟩ := hv i v hP
    have hS' : SetQ w s'.heap S ks := hS.at fun o ho => hm.heap S o hSw ho
    show wpAny (model P w) A.in1 (holding [v] (setAdd S v) >>= _) _ _ s'
    refine wpAny_bind (wpAny_holding ?_)
    unfold setAdd
    refine wpAny_holding (wpAny_bind ((mixKind P w).pyHash (k := k) hk2 ?_))
    refine put_hashed (s := { s' with toks := s'.toks + 1 }) hk2 hS' (by omega) fun b h' sb hS2 => ?_
    have e1 : vals.drop i = k :: vals.drop (i + 1) := by
      have hl : i < vals.length := by omega
      rw [List.drop_eq_getElem_cons hl]
      rw [List.getElem?_eq_getElem hl] at hk1
      cases hk1; rfl
    refine wpAny_pure ⟨plainId_quiet PyProof.Rows.F.plain_set_update_loop _, ih (i + 1) _ (addKey ks k) (by omega) hlt (W.frame _ s' _ _ hst' (Nat.le_succ _) fun b hb o e => ?_) hS2 (by have := addKey_len ks k; omega) fun s'' hm'' hS'' => ?_⟩
    · rw [sb.2 b (fun h : b = S => hSf (by rw [← h]; exact hb))]; exact e
    · rw [e1] at hR
      refine hR s'' (Moved.trans W.gtrans ((hm.mono sub).then_heap (Nat.le_succ _) fun b o hb e => ?_) hm'') hS''
      rw [sb.2 b (fun h : b = S => hb (by rw [h]; exact List.mem_cons_self))]; exact e
end
abbrev nset (w : World) : Obj := { cls := .type "set", dict := none, data := .set #[] 0 (.fresh 0 0 (!w.params.followText "set-order")) }
section
variable {P : Program} {w : World} {A : Around} {E : Value → Shared → Prop} {s : Shared}
theorem set_list {l : Addr} {items : Array Value} {vals : List Key} {Q : Value → Shared → Prop} (hh : A.handled = none) (hl : s.heap.IsList l items) (hn : vals.length = items.size) (hv : ∀ (i : Nat) (v : Value), items[i]? = some v → ∃ k, vals[i]? = some k ∧ keyIs k v = true) (hb : items.size + 1 < scanBound)
    (h : ∀ (h' : Heap) (tk : Nat), SetQ w h' s.heap.objs.size (addAll [] vals) → (∀ b o, b < s.heap.objs.size → s.heap.get? b = some o → h'.get? b = some o) → Q (.ref s.heap.objs.size) { s with heap := h', toks := tk }) :
    wpAny (model P w) A (call (.type "set") [.ref l]) Q E s := by
  obtain ⟨c, tl, hmro⟩ := PySem.F.called_set.mro
  have a1 := PySem.F.called_set.made
  have a2 := PySem.F.called_set.sub
  refine wpAny_call (codeAny_of_tree ?_)
  show wpAny (model P w) _ (callAny (.type "set") _) _ _ s
  refine wpAny_pure ⟨Code.quiet_builtin _ (by decide +kernel), codeAny_builtin PySem.F.entry_type_call ?_⟩
  rw [Around.under_plain (weight_type_call_type "set" [.ref l] []) rfl]
  have a3 := PySem.F.called_set.notType
  have a4 := PySem.F.called_set.canCreate
  have a5 := PySem.F.typeCall_set_1 (.ref l)
  repeat (any_goals (first | assumption | wp_step))
  refine codeAny_mono (new_set1 (.ref l) (E := E) (Q₁ := fun obj s₁ => obj = .ref s.heap.objs.size ∧ s₁ = { s with heap := s.heap.push (nset w) }) ⟨rfl, rfl⟩) fun r s₁ hr => ?_
  cases r with
  | error e => exact hr
  | ok fl =>
    cases fl with
    | ret obj =>
      obtain ⟨rfl, rfl⟩ := hr
      have b1 : (s.heap.push (nset w)).get? s.heap.objs.size = some (nset w) := Heap.get?_push_size _ rfl
      have b2 : Shared.TypeIs { s with heap := s.heap.push (nset w) } (.ref s.heap.objs.size) "set" := ⟨_, b1, rfl⟩
      have b3 := PySem.F.called_set.init.lookup
      have b4 := PySem.F.called_set.init.bind (.ref s.heap.objs.size)
      repeat (any_goals (first | assumption | wp_step))
      refine codeAny_mono (codeAny_call_builtin (R := wants (fun r s₂ => r = .none ∧ ∃ h' tk, s₂ = { s with heap := h', toks := tk } ∧ SetQ w h' s.heap.objs.size (addAll [] vals) ∧ (∀ b o, b < s.heap.objs.size → s.heap.get? b = some o → h'.get? b = some o)) E)
        PySem.F.called_set.init.plain PySem.F.entry_set_init (check_set_init_1 b2 ?_)) fun r₂ s₂ hr₂ => ?_
      · obtain ⟨⟨ocls, odict, odata, oslots⟩, hol, hcl, nl, hdl⟩ := hl
        simp only at hcl hdl
        subst hcl; subst hdl
        have b5 : (s.heap.push (nset w)).get? l = some { cls := .type "list", dict := odict, data := .seq items nl, slots := oslots } := Heap.get?_push_of_some _ hol
        have b6 := PySem.F.sub_list_set
        have b7 := PySem.F.sub_list_frozenset
        have b8 : (Value.type "list" == Value.type "dict") = false := by decide
        have b9 : (s.heap.push (nset w)).IsList l items := ⟨_, b5, rfl, nl, rfl⟩
        unfold Builtin.«set.__init__» noKeywords Builtin.Frozenset.updateFrom
        generalize hPI : pyIter = PI
        wp_walk
        subst hPI
        refine wpAny_pyIter_list b9 (wpAny_bind (wpAny_runValue ?_))
        have c1 : l < s.heap.objs.size := Heap.lt_size hol
        have c2 : A.in1.in1.in1.handled = none := by simp [hh]
        have c3 : l ≠ (s.heap.push (nset w)).objs.size := by rw [Heap.size_push]; exact Nat.ne_of_lt (Nat.lt_succ_of_lt c1)
        have c4 : s.heap.objs.size ∉ [(s.heap.push (nset w)).objs.size, l] := by
          rw [Heap.size_push]; simp only [List.mem_cons, List.not_mem_nil, or_false, not_or]; exact ⟨Nat.ne_of_lt (Nat.lt_succ_self _), Nat.ne_of_gt c1⟩
        refine upd_loop ((Walks.list c2 _ l c3 items).toS) s.heap.objs.size c4 vals hn hv (items.size - 0) 0 _ [] (by omega) (Nat.zero_le _) ⟨⟨_, Heap.get?_push_size _ rfl, rfl, rfl⟩, (b9.push _)⟩ ?hS0 (by simpa using hb) ?hR
        case hS0 => exact (setQ_fresh (h := s.heap) w).at fun o ho => Heap.get?_push_of_some _ ho
        case hR =>
          intro s' hm hS'
          obtain ⟨h', g', d', tk', os'⟩ := s'
          have eg : g' = s.gens := hm.gens
          have ed : d' = s.drawn := hm.drawn
          have eo : os' = s.os := hm.os
          subst eg; subst ed; subst eo
          refine wpAny_pure ?_
          show wpAny _ _ (ret Value.none) _ _ _
          refine wpAny_pure ⟨rfl, h', tk', rfl, hS', fun b o hb e => ?_⟩
          refine hm.heap b o ?_ (Heap.get?_push_of_some _ (Heap.get?_push_of_some _ e))
          rw [Heap.size_push]
          simp only [List.mem_cons, List.not_mem_nil, or_false, not_or]
          exact ⟨Nat.ne_of_lt hb, Nat.ne_of_lt (Nat.lt_succ_of_lt hb)⟩
      · cases r₂ with
        | error e => exact hr₂
        | ok fl₂ =>
          cases fl₂ with
          | ret r =>
            obtain ⟨rfl, h', tk, rfl, hS', hk'⟩ := hr₂
            repeat (any_goals (first | assumption | wp_step))
            exact h _ _ hS' hk'
          | _ => exact hr₂.elim
    | _ => exact hr.elim

theorem set_tuple {l : Addr} {items : Array Value} {vals : List Key} {Q : Value → Shared → Prop} (hh : A.handled = none) (hl : s.heap.IsTuple l items) (hn : vals.length = items.size) (hv : ∀ (i : Nat) (v : Value), items[i]? = some v → ∃ k, vals[i]? = some k ∧ keyIs k v = true) (hb : items.size + 1 < scanBound)
    (h : ∀ (h' : Heap) (tk : Nat), SetQ w h' s.heap.objs.size (addAll [] vals) → (∀ b o, b < s.heap.objs.size → s.heap.get? b = some o → h'.get? b = some o) → Q (.ref s.heap.objs.size) { s with heap := h', toks := tk }) :
    wpAny (model P w) A (call (.type "set") [.ref l]) Q E s := by
  obtain ⟨c, tl, hmro⟩ := PySem.F.called_set.mro
  have a1 := PySem.F.called_set.made
  have a2 := PySem.F.called_set.sub
  refine wpAny_call (codeAny_of_tree ?_)
  show wpAny (model P w) _ (callAny (.type "set") _) _ _ s
  refine wpAny_pure ⟨Code.quiet_builtin _ (by decide +kernel), codeAny_builtin PySem.F.entry_type_call ?_⟩
  rw [Around.under_plain (weight_type_call_type "set" [.ref l] []) rfl]
  have a3 := PySem.F.called_set.notType
  have a4 := PySem.F.called_set.canCreate
  have a5 := PySem.F.typeCall_set_1 (.ref l)
  repeat (any_goals (first | assumption | wp_step))
  refine codeAny_mono (new_set1 (.ref l) (E := E) (Q₁ := fun obj s₁ => obj = .ref s.heap.objs.size ∧ s₁ = { s with heap := s.heap.push (nset w) }) ⟨rfl, rfl⟩) fun r s₁ hr => ?_
  cases r with
  | error e => exact hr
  | ok fl =>
    cases fl with
    | ret obj =>
      obtain ⟨rfl, rfl⟩ := hr
      have b1 : (s.heap.push (nset w)).get? s.heap.objs.size = some (nset w) := Heap.get?_push_size _ rfl
      have b2 : Shared.TypeIs { s with heap := s.heap.push (nset w) } (.ref s.heap.objs.size) "set" := ⟨_, b1, rfl⟩
      have b3 := PySem.F.called_set.init.lookup
      have b4 := PySem.F.called_set.init.bind (.ref s.heap.objs.size)
      repeat (any_goals (first | assumption | wp_step))
      refine codeAny_mono (codeAny_call_builtin (R := wants (fun r s₂ => r = .none ∧ ∃ h' tk, s₂ = { s with heap := h', toks := tk } ∧ SetQ w h' s.heap.objs.size (addAll [] vals) ∧ (∀ b o, b < s.heap.objs.size → s.heap.get? b = some o → h'.get? b = some o)) E)
        PySem.F.called_set.init.plain PySem.F.entry_set_init (check_set_init_1 b2 ?_)) fun r₂ s₂ hr₂ => ?_
      · obtain ⟨⟨ocls, odict, odata, oslots⟩, hol, hcl, nl, hdl⟩ := hl
        simp only at hcl hdl
        subst hcl; subst hdl
        have b5 : (s.heap.push (nset w)).get? l = some { cls := .type "tuple", dict := odict, data := .seq items nl, slots := oslots } := Heap.get?_push_of_some _ hol
        have b6 := PySem.F.sub_tuple_set
        have b7 := PySem.F.sub_tuple_frozenset
        have b8 : (Value.type "tuple" == Value.type "dict") = false := by decide
        have b9 : (s.heap.push (nset w)).IsTuple l items := ⟨_, b5, rfl, nl, rfl⟩
        unfold Builtin.«set.__init__» noKeywords Builtin.Frozenset.updateFrom
        generalize hPI : pyIter = PI
        wp_walk
        subst hPI
        refine wpAny_pyIter_tuple b9 (wpAny_bind (wpAny_runValue ?_))
        have c1 : l < s.heap.objs.size := Heap.lt_size hol
        have c2 : A.in1.in1.in1.handled = none := by simp [hh]
        have c3 : l ≠ (s.heap.push (nset w)).objs.size := by rw [Heap.size_push]; exact Nat.ne_of_lt (Nat.lt_succ_of_lt c1)
        have c4 : s.heap.objs.size ∉ [(s.heap.push (nset w)).objs.size, l] := by
          rw [Heap.size_push]; simp only [List.mem_cons, List.not_mem_nil, or_false, not_or]; exact ⟨Nat.ne_of_lt (Nat.lt_succ_self _), Nat.ne_of_gt c1⟩
        refine upd_loop ((Walks.tuple c2 _ l c3 items).toS) s.heap.objs.size c4 vals hn hv (items.size - 0) 0 _ [] (by omega) (Nat.zero_le _) ⟨⟨_, Heap.get?_push_size _ rfl, rfl, rfl⟩, (b9.push _)⟩ ?hS0 (by simpa using hb) ?hR
        case hS0 => exact (setQ_fresh (h := s.heap) w).at fun o ho => Heap.get?_push_of_some _ ho
        case hR =>
          intro s' hm hS'
          obtain ⟨h', g', d', tk', os'⟩ := s'
          have eg : g' = s.gens := hm.gens
          have ed : d' = s.drawn := hm.drawn
          have eo : os' = s.os := hm.os
          subst eg; subst ed; subst eo
          refine wpAny_pure ?_
          show wpAny _ _ (ret Value.none) _ _ _
          refine wpAny_pure ⟨rfl, h', tk', rfl, hS', fun b o hb e => ?_⟩
          refine hm.heap b o ?_ (Heap.get?_push_of_some _ (Heap.get?_push_of_some _ e))
          rw [Heap.size_push]
          simp only [List.mem_cons, List.not_mem_nil, or_false, not_or]
          exact ⟨Nat.ne_of_lt hb, Nat.ne_of_lt (Nat.lt_succ_of_lt hb)⟩
      · cases r₂ with
        | error e => exact hr₂
        | ok fl₂ =>
          cases fl₂ with
          | ret r =>
            obtain ⟨rfl, h', tk, rfl, hS', hk'⟩ := hr₂
            repeat (any_goals (first | assumption | wp_step))
            exact h _ _ hS' hk'
          | _ => exact hr₂.elim
    | _ => exact hr.elim

end
end Bo

set_option Elab.async false
set_option linter.all false
set_option maxRecDepth 100000
set_option maxHeartbeats 4000000
set_option autoImplicit false
/-! Bo10: sorted, sorted(set(..)), len(set(..)), join, displays of dicts, -x. -/
namespace Bo
open PySem PySem.Spec PyProof.Rows L2

/-! ### sorted -/
/-- the data of a value that has one -/
def pyD (d : D) : PyData := (toPy d).getD .none
def leD (a b : D) : Bool := PySem.W.dataLe false pyD a b
def isTup1 : PyData → Bool
  | .tuple (_ :: _) => true
  | _ => false
def noTup : PyData → Bool
  | .none | .tuple _ => false
  | _ => true
def sortOk (ds : List D) : Bool := (toPys ds).isSome && (decide (ds.length ≤ sizeLine) && ((ds.map pyD).all (fun p => (ds.map pyD).all (PySem.W.alike p)) && (((ds.map pyD).all isTup1 || (ds.map pyD).all noTup) && (ds.map pyD).all fun p => decide (p.depth ≤ 64))))
def sortL (ds : List D) : List D := ds.mergeSort leD
theorem toPys_each : ∀ {ds : List D} {ps : List PyData}, toPys ds = some ps → ∀ d ∈ ds, toPy d = some (pyD d)
  | [], _, _, d, h => by cases h
  | e :: ds, ps, q, d, h => by
    simp only [toPys, Option.bind_eq_some_iff, Option.map_eq_some_iff] at q
    obtain ⟨p, h1, ps', h2, rfl⟩ := q
    rcases List.mem_cons.mp h with rfl | h
    · unfold pyD; rw [h1]; rfl
    · exact toPys_each h2 d h
theorem sortOk_parts {ds : List D} (h : sortOk ds = true) : (∀ d ∈ ds, toPy d = some (pyD d)) ∧ ds.length ≤ sizeLine ∧ PySem.W.AllAlike (ds.map pyD) ∧ PySem.W.Sortable (ds.map pyD) ∧ ∀ d ∈ ds, (pyD d).depth ≤ 64 := by
  unfold sortOk at h
  simp only [Bool.and_eq_true, decide_eq_true_eq, Bool.or_eq_true] at h
  obtain ⟨h1, h2, h3, h4, h5⟩ := h
  obtain ⟨ps, e⟩ := Option.isSome_iff_exists.mp h1
  refine ⟨toPys_each e, h2, fun p hp q hq => List.all_eq_true.mp (List.all_eq_true.mp h3 p hp) q hq, ?_, fun d hd => ?_⟩
  · rcases h4 with h4 | h4
    · refine .inl fun p hp => ?_
      have := List.all_eq_true.mp h4 p hp
      cases p with
      | tuple xs => cases xs with
        | nil => cases this
        | cons x r => exact ⟨x, r, rfl⟩
      | _ => cases this
    · refine .inr fun p hp => ?_
      have := List.all_eq_true.mp h4 p hp
      exact ⟨fun e => (by subst e; cases this), fun xs e => (by subst e; cases this)⟩
  · exact of_decide_eq_true (List.all_eq_true.mp h5 _ (List.mem_map.mpr ⟨d, hd, rfl⟩))
/-- pairs of a value and its datum -/
theorem pair_map {g : Gx} {z : Fz} : ∀ {ds : List D} {xs : List V}, RelDs g z ds xs → ∃ bs : List (V × D), bs.map (·.1) = xs ∧ bs.map (·.2) = ds ∧ ∀ b ∈ bs, RelD g z b.2 b.1
  | _, _, .nil => ⟨[], rfl, rfl, fun b hb => by cases hb⟩
  | _, _, .cons h t => by
    obtain ⟨bs, h1, h2, h3⟩ := pair_map t
    refine ⟨(_, _) :: bs, by rw [List.map_cons, h1], by rw [List.map_cons, h2], fun b hb => ?_⟩
    rcases List.mem_cons.mp hb with rfl | hb
    · exact h
    · exact h3 b hb
theorem rel_map {g : Gx} {z : Fz} : ∀ {bs : List (V × D)}, (∀ b ∈ bs, RelD g z b.2 b.1) → RelDs g z (bs.map (·.2)) (bs.map (·.1))
  | [], _ => .nil
  | b :: bs, h => .cons (h b List.mem_cons_self) (rel_map fun c hc => h c (List.mem_cons_of_mem _ hc))
theorem vals_each : ∀ {bs : List (V × D)} {us : List Value}, Vals (bs.map (·.1)) us → PySem.W.EachIs (fun (u : Value) (b : V × D) => RelV b.1 u) us bs
  | [], _, r => by cases r; exact .nil
  | b :: bs, _, r => by
    cases r with
    | cons h t => exact .cons h (vals_each t)
theorem each_vals : ∀ {bs : List (V × D)} {us : List Value}, PySem.W.EachIs (fun (u : Value) (b : V × D) => RelV b.1 u) us bs → Vals (bs.map (·.1)) us
  | _, _, .nil => .nil
  | _, _, .cons h t => .cons h (each_vals t)
theorem each_and {α β : Type} {R S : α → β → Prop} : ∀ {as : List α} {bs : List β}, PySem.W.EachIs R as bs → (∀ a b, b ∈ bs → R a b → S a b) → PySem.W.EachIs S as bs
  | _, _, .nil, _ => .nil
  | _, _, .cons h t, k => .cons (k _ _ List.mem_cons_self h) (each_and t fun a b hb => k a b (List.mem_cons_of_mem _ hb))
theorem sort_snd (bs : List (V × D)) : (bs.mergeSort (PySem.W.dataLe false fun b => pyD b.2)).map (·.2) = sortL (bs.map (·.2)) := by
  unfold sortL
  rw [List.map_mergeSort (r := PySem.W.dataLe false fun b => pyD b.2) (s := leD) (f := fun b : V × D => b.2)]
  intro a _ b _
  rfl

theorem leD_total : PySem.W.TotalLe leD := by
  have : leD = PySem.W.dataLe false pyD := by funext a b; rfl
  rw [this]; exact PySem.W.sortLe_total _ _ _
section
variable {X : Cx} {g : Gx} {W : WX} {k : Nat}
def sortedD (hc : Hc) : List D → Option D
  | [d] => (hc.lst? d).bind fun ds => if sortOk ds then some (.lst (sortL ds)) else none
  | _ => none
theorem b_sorted (c : Ct X g W k) : CallR X (.builtin "sorted") (rA g sortedD) := by
  intro pins s σ H xs us Q I r ⟨z, hc, ds, rr, st, rd, er, q⟩
  cases rd with
  | nil => cases er
  | cons h t => cases t with
    | cons _ _ => cases er
    | nil =>
      obtain ⟨es, e1, e2⟩ := Option.bind_eq_some_iff.mp er
      split at e2
      · rename_i hs
        cases e2
        obtain ⟨a, ys, rfl, hl, rl⟩ := st.list e1 h
        obtain ⟨p1, p2, p3, p4, p5⟩ := sortOk_parts hs
        obtain ⟨bs, b1, b2, b3⟩ := pair_map rl
        rw [← c.hK] at hl
        obtain ⟨its, rv, pl, hz⟩ := I.list hl
        rw [Vals.ref1 r]
        subst b1 b2
        have ev := vals_each rv
        have hdp : ∀ (u : Value) (b : V × D), b ∈ bs → RelV b.1 u → ∃ as, Reads s.heap u (pyD b.2) as := fun u b hb hu =>
          Dp.reads I _ b.1 u (by rw [c.hK]; exact toPy_dp st.sub (b3 b hb) (p1 b.2 (List.mem_map.mpr ⟨b, hb, rfl⟩))) hu
        rw [List.map_map] at p3 p4
        refine PySem.W.sorted_data (R := fun (u : Value) (b : V × D) => RelV b.1 u) (enc := fun b => pyD b.2) (bs := bs) pl.isList ev (each_and ev hdp) p3 p4 (by simpa using p2) (fun b hb => ?_) fun out ho eo => ?_
        · have h1 := p5 b.2 (List.mem_map.mpr ⟨b, hb, rfl⟩)
          have h2 := c.room.un
          omega
        · have hperm := List.mergeSort_perm bs (PySem.W.dataLe false fun b => pyD b.2)
          have rel2 : RelDs g z (sortL (bs.map (·.2))) ((bs.mergeSort (PySem.W.dataLe false fun b => pyD b.2)).map (·.1)) := by
            rw [← sort_snd]
            exact rel_map fun b hb => b3 b (hperm.mem_iff.mp hb)
          have hlen : ((bs.mergeSort (PySem.W.dataLe false fun b => pyD b.2)).map (·.1)).length ≤ sizeLine := by
            rw [List.length_map, hperm.length_eq]; simpa using p2
          have hn : H (s.heap.objs.size + 1) = none := I.hok.fresh (Nat.le_succ _)
          obtain ⟨z2, x2, s2, r2⟩ := st.newLst hn rel2
          obtain ⟨ee, he⟩ := sortedAll_at s.heap its out.toArray
          exact ⟨.ref _, _, I.laid (t' := s.toks) (a := s.heap.objs.size + 1) (o := .lst ((bs.mergeSort (PySem.W.dataLe false fun b => pyD b.2)).map (·.1))) (fun b o e => sortedAll_old e) (Nat.le_succ _) ⟨hlen, out, ee, each_vals eo, he⟩, rfl, q _ _ _ x2 s2 r2⟩
      · cases e2
end
/-! ### sets of ints and texts -/
def kD : Key → D
  | .inl i => .int i
  | .inr x => .str x
def dK : D → Option Key
  | .int i => some (.inl i)
  | .str x => some (.inr x)
  | _ => none
def dKs : List D → Option (List Key)
  | [] => some []
  | d :: ds => (dK d).bind fun k => (dKs ds).map (k :: ·)
theorem dK_rel {g : Gx} {z : Fz} {d : D} {v : V} {u : Value} {k : Key} (e : dK d = some k) (r : RelD g z d v) (rv : RelV v u) : keyIs k u = true := by
  cases r with
  | int i => cases e; obtain ⟨t, rfl⟩ := rv; exact keyIs_int _ _
  | str i => cases e; obtain ⟨t, rfl⟩ := rv; exact keyIs_str _ _
  | _ => cases e
theorem dKs_rel {g : Gx} {z : Fz} : ∀ {ds : List D} {vs : List V} {us : List Value} {ks : List Key}, dKs ds = some ks → RelDs g z ds vs → Vals vs us → ks.length = us.length ∧ ∀ (i : Nat) (v : Value), us[i]? = some v → ∃ k, ks[i]? = some k ∧ keyIs k v = true
  | _, _, _, _, e, .nil, .nil => by cases e; exact ⟨rfl, fun i v h => by simp at h⟩
  | _, _, _, _, e, .cons r rs, .cons v vs => by
    simp only [dKs, Option.bind_eq_some_iff, Option.map_eq_some_iff] at e
    obtain ⟨k, e1, ks, e2, rfl⟩ := e
    obtain ⟨h1, h2⟩ := dKs_rel e2 rs vs
    refine ⟨by simp [h1], fun i w h => ?_⟩
    cases i with
    | zero => simp at h; subst h; exact ⟨k, rfl, dK_rel e1 r v⟩
    | succ i => simpa using h2 i w (by simpa using h)
/-- the set at p -/
def SetX (w : World) (p : Addr) (ks : List Key) : HO := .ext fun h => SetQ w h p ks
theorem setX_new {w : World} {P : Program} {H : Hp} {h : Heap} {a : Addr} {ks : List Key} (R : SetQ w h a ks) : ObjOk P w H h a (SetX w a ks) := by
  have ⟨o, _, _, _, ho, _⟩ := R
  exact ⟨R, ⟨o, ho⟩, fun h1 h2 p k => SetQ.at p k⟩
def seqOf (hc : Hc) : D → Option (List D)
  | .tup ds => some ds
  | d => hc.lst? d
/-- the members of set(x), each once -/
def setK (hc : Hc) (d : D) : Option (List Key) := (seqOf hc d).bind fun ds => if ds.length + 2 < scanBound then (dKs ds).map (addAll []) else none
section
variable {X : Cx} {g : Gx} {W : WX} {k : Nat}
theorem c_set (c : Ct X g W k) : CallR X (.type "set") (fun xs H Q => ∃ z hc d v ks, StR g z H hc ∧ xs = [v] ∧ RelD g z d v ∧ setK hc d = some ks ∧ ∀ p, H p = none → Q (.ref p) (upd H p (SetX X.w p ks))) := by
  intro pins s σ H xs us Q I r ⟨z, hc, d, v, ks, st, e, rd, ek, q⟩
  subst e
  obtain ⟨ds, e1, e2⟩ := Option.bind_eq_some_iff.mp ek
  split at e2
  · rename_i hb
    obtain ⟨vals, e3, rfl⟩ := Option.map_eq_some_iff.mp e2
    have hn : H s.heap.objs.size = none := I.hok.fresh (Nat.le_refl _)
    have fin : ∀ (h' : Heap) (tk : Nat), SetQ X.w h' s.heap.objs.size (addAll [] vals) → (∀ b o, b < s.heap.objs.size → s.heap.get? b = some o → h'.get? b = some o) → EP X pins σ Q (.ref s.heap.objs.size) { s with heap := h', toks := tk } := fun h' tk R k' =>
      ⟨.ref _, _, I.laid (t' := tk) (fun b o e => k' b o (Heap.lt_size e) e) (Nat.le_refl _) (setX_new R), rfl, q _ hn⟩
    have lists : ∀ (e1 : hc.lst? d = some ds), wpAny (model X.prog X.w) X.A (call (.type "set") us) (EP X pins σ Q) X.xe s := fun e1 => by
      obtain ⟨a, ys, rfl, hl, rl⟩ := st.list e1 rd
      rw [← c.hK] at hl
      obtain ⟨its, rv, pl, hz⟩ := I.list hl
      rw [Vals.ref1 r]
      obtain ⟨h1, h2⟩ := dKs_rel e3 rl rv
      have hsz : its.toArray.size = ds.length := by rw [List.size_toArray, ← rv.length, rl.length]
      exact set_list (vals := vals) (I.ok.hd c.calm) pl.isList (by rw [h1, List.size_toArray]) (fun i v h => h2 i v (by simpa using h)) (by rw [hsz]; omega) fin
    cases rd with
    | tup h1 q1 =>
      cases e1
      have h1' := SqT.mono st.sub h1
      rw [← c.hK] at h1'
      obtain ⟨its, rv, ⟨o, ho, hcl, n, hd⟩, _⟩ := I.tuple h1'
      rw [Vals.ref1 r]
      obtain ⟨h3, h2⟩ := dKs_rel e3 q1 rv
      have hsz : its.toArray.size = ds.length := by rw [List.size_toArray, ← rv.length, q1.length]
      exact set_tuple (vals := vals) (I.ok.hd c.calm) ⟨_, ho, hcl, n, hd⟩ (by rw [h3, List.size_toArray]) (fun i v h => h2 i v (by simpa using h)) (by rw [hsz]; omega) fin
    | lst h1 q1 => exact lists e1
    | kl h1 q1 => exact lists e1
    | loc h1 => exact lists e1
    | _ => cases e1
  · cases e2
/-- len of it -/
theorem c_lenset : CallR X (.builtin "len") (fun xs H Q => ∃ p ks, xs = [.ref p] ∧ H p = some (SetX X.w p ks) ∧ Q (.int ks.length) H) := by
  intro pins s σ H xs us Q I r ⟨p, ks, e, hp, q⟩
  subst e
  rw [Vals.ref1 r]
  obtain ⟨o, es, ep, t, ho, hex, hd, g, nd, hm, hb, hf, hr, hl⟩ := (show SetQ X.w s.heap p ks from (I.hok p _ hp).1)
  have hn : es.size = ks.length := by rw [← hm.length_eq, List.length_map, Array.length_toList]
  have hb2 : (es.size : Int) < 2 ^ 63 := by
    have : scanBound ≤ 2 ^ 62 := by decide
    omega
  exact call_len_set ho hex hd hf hb2 ⟨.int ks.length, H, I.tok _, ⟨_, by rw [hn]⟩, q⟩
end
end Bo

set_option Elab.async false
set_option linter.all false
set_option maxRecDepth 100000
set_option maxHeartbeats 4000000
set_option autoImplicit false
/-! Bo11: sorted(set(..)), len(set(..)) as one step each. -/
namespace Bo
open PySem PySem.Spec PyProof.Rows L2

def kP : Key → PyData
  | .inl i => .int i
  | .inr x => .str x
def vK : Key → V
  | .inl i => .int i
  | .inr x => .str x
def leK (a b : Key) : Bool := PySem.W.dataLe false kP a b
def sortK (ks : List Key) : List Key := ks.mergeSort (PySem.W.dataLe false kP)
def sameK (ks : List Key) : Bool := (ks.all fun k => k.isLeft) || ks.all fun k => k.isRight
theorem leK_anti {a b : Key} (h1 : PySem.W.dataLe false kP a b = true) (h2 : PySem.W.dataLe false kP b a = true) : a = b := by
  have h1' : (!lexLt itemOrd (PySem.W.keyToks (kP b)) (PySem.W.keyToks (kP a))) = true := h1
  have h2' : (!lexLt itemOrd (PySem.W.keyToks (kP a)) (PySem.W.keyToks (kP b))) = true := h2
  rw [Bool.not_eq_true'] at h1' h2'
  have e := lex_total (O := itemOrd) _ _ h2' h1'
  cases a with
  | inl i => cases b with
    | inl j => simpa [kP, PySem.W.keyToks] using e
    | inr x => simp [kP, PySem.W.keyToks] at e
  | inr x => cases b with
    | inl j => simp [kP, PySem.W.keyToks] at e
    | inr y =>
      have : x.cps.toList = y.cps.toList := by simpa [kP, PySem.W.keyToks] using e
      rw [PySem.W.str_of_cps this]
theorem sortK_sorted (ks : List Key) : (sortK ks).Pairwise fun a b => PySem.W.dataLe false kP a b = true := by
  have t := PySem.W.sortLe_total (listOrd itemOrd) false fun b : Key => PySem.W.keyToks (kP b)
  exact List.pairwise_mergeSort (fun a b c => t.trans a b c) (fun a b => (Bool.or_eq_true _ _).mpr (t.total a b)) ks
theorem sortK_perm {ks ls : List Key} (p : ks.Perm ls) : sortK ks = sortK ls :=
  List.Perm.eq_of_pairwise (fun a b _ _ h1 h2 => leK_anti h1 h2) (sortK_sorted ks) (sortK_sorted ls) (((List.mergeSort_perm ks _).trans p).trans (List.mergeSort_perm ls _).symm)
theorem kP_reads {h : Heap} {k : Key} {v : Value} (e : keyIs k v = true) : Reads h v (kP k) [] := by
  rcases keyIs_shape e with ⟨i, t, rfl, rfl⟩ | ⟨x, t, rfl, rfl⟩
  · exact .int i t
  · exact .str x t
theorem kP_depth (k : Key) : (kP k).depth ≤ 64 := by
  cases k <;> simp [kP, PyData.depth]
theorem sameK_ok {ks : List Key} (h : sameK ks = true) : PySem.W.AllAlike (ks.map kP) ∧ PySem.W.Sortable (ks.map kP) := by
  refine ⟨fun p hp q hq => ?_, .inr fun p hp => ?_⟩
  · obtain ⟨a, ha, rfl⟩ := List.mem_map.mp hp
    obtain ⟨b, hb, rfl⟩ := List.mem_map.mp hq
    rcases (Bool.or_eq_true _ _).mp h with h | h
    · have h1 := List.all_eq_true.mp h a ha
      have h2 := List.all_eq_true.mp h b hb
      clear h hp hq ha hb
      cases a <;> cases b <;> first | (simp at h1; done) | (simp at h2; done) | simp [kP, PySem.W.alike]
    · have h1 := List.all_eq_true.mp h a ha
      have h2 := List.all_eq_true.mp h b hb
      clear h hp hq ha hb
      cases a <;> cases b <;> first | (simp at h1; done) | (simp at h2; done) | simp [kP, PySem.W.alike]
  · obtain ⟨a, ha, rfl⟩ := List.mem_map.mp hp
    cases a <;> exact ⟨nofun, nofun⟩
theorem keys_each : ∀ {vs : List Value} (_ : ∀ v ∈ vs, ∃ k : Key, keyIs k v = true), PySem.W.EachIs (fun v k => keyIs k v = true) vs (vs.map fun v => kEl (0, v))
  | [], _ => .nil
  | v :: vs, h => by
    obtain ⟨k, hk⟩ := h v List.mem_cons_self
    exact .cons (show keyIs (kEl (0, v)) v = true by rw [kEl_of hk]; exact hk) (keys_each fun u hu => h u (List.mem_cons_of_mem _ hu))
theorem keys_vals : ∀ {vs : List Value} {ks : List Key}, PySem.W.EachIs (fun v k => keyIs k v = true) vs ks → Vals (ks.map vK) vs
  | _, _, .nil => .nil
  | _, _, .cons h t => .cons (by
      rcases keyIs_shape h with ⟨i, t, rfl, rfl⟩ | ⟨x, t, rfl, rfl⟩
      · exact ⟨t, rfl⟩
      · exact ⟨t, rfl⟩) (keys_vals t)
theorem keys_rel {g : Gx} {z : Fz} : ∀ (ks : List Key), RelDs g z (ks.map kD) (ks.map vK)
  | [] => .nil
  | .inl i :: ks => .cons (.int i) (keys_rel ks)
  | .inr x :: ks => .cons (.str x) (keys_rel ks)
section
variable {X : Cx} {g : Gx} {W : WX} {k : Nat}
theorem c_sortset (c : Ct X g W k) : CallR X (.builtin "sorted") (fun xs H Q => ∃ p ks, xs = [.ref p] ∧ H p = some (SetX X.w p ks) ∧ sameK ks = true ∧ ks.length ≤ sizeLine ∧ ∀ q, H q = none → Q (.ref q) (upd H q (.lst ((sortK ks).map vK)))) := by
  intro pins s σ H xs us Q I r ⟨p, ks, e, hp, hsame, hL, q⟩
  subst e
  rw [Vals.ref1 r]
  obtain ⟨o, es, ep, t, ho, hex, hd, g, nd, hm, hb, hf, hr, hl⟩ := (show SetQ X.w s.heap p ks from (I.hok p _ hp).1)
  refine Calls.call_function_entry kind_sorted plain_sorted entry_sorted (args_sorted1 _) ?_
  unfold Builtin.«sorted»
  refine wpAny_bind (m := checkCount "sorted" 1 1 _) (wpAny_pure ?_)
  refine wpAny_bind (collect_set (A := X.A.in1) (I.ok.hd c.calm) ⟨o, ho, hex.1, hd⟩ hf hb hr hl fun s1 vs k1 hz g1 o1 pm => ?_)
  have hks : ∀ v ∈ vs, ∃ k : Key, keyIs k v = true := fun v hv => by
    obtain ⟨e, he, q⟩ := List.mem_map.mp (pm.mem_iff.mp hv)
    obtain ⟨k, h1, _⟩ := g e he
    exact ⟨k, by rw [← q]; exact h1⟩
  have pk : (vs.map fun v => kEl (0, v)).Perm ks := by
    have q := pm.map fun v => kEl (0, v)
    rw [List.map_map] at q
    exact q.trans hm
  have hvl : (vs.map fun v => kEl (0, v)).length = ks.length := pk.length_eq
  have hvl' : vs.length = ks.length := by rw [← hvl, List.length_map]
  have hsame' : sameK (vs.map fun v => kEl (0, v)) = true := by
    unfold sameK at hsame ⊢
    rcases (Bool.or_eq_true _ _).mp hsame with h | h
    · exact (Bool.or_eq_true _ _).mpr (.inl (List.all_eq_true.mpr fun k hk => List.all_eq_true.mp h k (pk.mem_iff.mp hk)))
    · exact (Bool.or_eq_true _ _).mpr (.inr (List.all_eq_true.mpr fun k hk => List.all_eq_true.mp h k (pk.mem_iff.mp hk)))
  obtain ⟨al, so⟩ := sameK_ok hsame'
  refine wpAny_bind (wpAny_newList ?_ (by rw [hvl']; exact hL))
  have hoL : (s1.heap.push (seqObj "list" vs.toArray 0)).get? s1.heap.objs.size = some (seqObj "list" vs.toArray 0) := Heap.get?_push_size _ rfl
  have ea := keys_each hks
  refine wpAny_bind (wpAny_holding (PySem.W.list_sort_data (s := { s1 with heap := s1.heap.push (seqObj "list" vs.toArray 0) }) (R := fun v k => keyIs k v = true) (enc := kP) hoL ea (ea.mono fun v k hk => ⟨[], kP_reads hk, nofun⟩) al so (by rw [hvl]; exact hL) (fun b hb => ?_) fun out h1 h2 => ?_))
  · have := kP_depth b
    have := c.room.un
    show X.A.units + 1 + 1 + _ < _
    omega
  obtain ⟨cc, hcc⟩ := sortedHeap_at (vs := vs) (out := out.toArray) hoL
  have h2' : PySem.W.EachIs (fun v k => keyIs k v = true) out (sortK ks) := by rw [← sortK_perm pk]; exact h2
  have hlen : ((sortK ks).map vK).length ≤ sizeLine := by
    rw [List.length_map]; unfold sortK; rw [(List.mergeSort_perm ks _).length_eq]; exact hL
  have hn : H s1.heap.objs.size = none := I.hok.fresh hz
  have kk : ∀ b u, s.heap.get? b = some u → (sortedHeap (s1.heap.push (seqObj "list" vs.toArray 0)) s1.heap.objs.size vs out.toArray).get? b = some u := fun b u e => by
    have q := k1 b u e
    have hlt := Heap.lt_size q
    rw [sortedHeap_old (Nat.ne_of_lt hlt) (by rw [size_push']; exact Nat.lt_succ_of_lt hlt)]
    exact Heap.get?_push_of_some _ q
  refine wpAny_pure ⟨_, rfl, ?_⟩
  have J : Inv X pins σ (upd H s1.heap.objs.size (.lst ((sortK ks).map vK))) { s with heap := sortedHeap (s1.heap.push (seqObj "list" vs.toArray 0)) s1.heap.objs.size vs out.toArray, gens := s1.gens, drawn := s1.drawn, toks := s1.toks } :=
    I.call (ch := []) (Un.laid kk hz hn) (I.hok.laid kk hz ⟨hlen, out, cc, keys_vals h2', hcc⟩) (by rw [g1]; exact I.bare) (fun _ z => nomatch z)
  obtain ⟨sh, sg, sd, st, sos⟩ := s1
  cases s
  cases o1
  exact ⟨.ref _, _, J, rfl, q _ hn⟩
end

def lenSetD (hc : Hc) : List D → Option D
  | [d] => (setK hc d).map fun ks => .int ks.length
  | _ => none
def sortSetD (hc : Hc) : List D → Option D
  | [d] => (setK hc d).bind fun ks => if sameK ks && decide (ks.length ≤ sizeLine) then some (.lst ((sortK ks).map kD)) else none
  | _ => none
section
variable {X : Cx} {g : Gx} {W : WX} {k : Nat} {a : Expr} {fs : Sl → Hc → Res (List D)} {p p2 pos pos2 : Pos}
theorem e_lenset (c : Ct X g W k) (ha : PA X [a] (aI g W fs)) (hm1 : X.mg "len" = none) (hm2 : X.mg "set" = none) (hg1 : Gl X "len" := by rfl) (hg2 : Gl X "set" := by rfl)
    (he : starEach [a] X.env = [(false, eval a X.env)] := by rfl) (he2 : starEach [.Call (.Name "set" p2) [a] [] pos2] X.env = [(false, eval (.Call (.Name "set" p2) [a] [] pos2) X.env)] := by rfl) :
    PE X (.Call (.Name "len" p) [.Call (.Name "set" p2) [a] [] pos2] [] pos) (tI g W (blE lenSetD fs)) := by
  have h1 := pe_callTy (p := p2) (pos := pos2) (c_set c) hg2 hm2 (by decide +kernel) ha (by decide) (by decide) he rfl
  refine pe_imp (pe_callB (c_lenset (X := X)) hg1 hm1 (by decide +kernel) (pa_cons h1 pa_nil he2) (by decide) (by decide) he2 rfl) fun σ H Q ⟨z, sl, hc, hs, st, h⟩ => ?_
  refine aI.mono (OutE.thenA (f := fs) hs st h) fun vs H1 ⟨z1, ds, hc1, x1, hs1, st1, r1, o1⟩ => ?_
  obtain ⟨rr, er, hq⟩ := o1.lift
  cases r1 with
  | nil => cases er
  | cons r t => cases t with
    | cons _ _ => cases er
    | nil =>
      obtain ⟨ks, e1, rfl⟩ := Option.map_eq_some_iff.mp er
      refine ⟨z1, hc1, _, _, ks, st1, rfl, r, e1, fun p hp => ?_⟩
      obtain ⟨x2, st2⟩ := st1.alloc (o := SetX X.w p ks) hp
      exact ⟨p, ks, rfl, upd_same, hq _ _ _ x2 st2 (.int _)⟩
theorem e_sortset (c : Ct X g W k) (ha : PA X [a] (aI g W fs)) (hm1 : X.mg "sorted" = none) (hm2 : X.mg "set" = none) (hg1 : Gl X "sorted" := by rfl) (hg2 : Gl X "set" := by rfl)
    (he : starEach [a] X.env = [(false, eval a X.env)] := by rfl) (he2 : starEach [.Call (.Name "set" p2) [a] [] pos2] X.env = [(false, eval (.Call (.Name "set" p2) [a] [] pos2) X.env)] := by rfl) :
    PE X (.Call (.Name "sorted" p) [.Call (.Name "set" p2) [a] [] pos2] [] pos) (tI g W (blE sortSetD fs)) := by
  have h1 := pe_callTy (p := p2) (pos := pos2) (c_set c) hg2 hm2 (by decide +kernel) ha (by decide) (by decide) he rfl
  refine pe_imp (pe_callB (c_sortset c) hg1 hm1 (by decide +kernel) (pa_cons h1 pa_nil he2) (by decide) (by decide) he2 rfl) fun σ H Q ⟨z, sl, hc, hs, st, h⟩ => ?_
  refine aI.mono (OutE.thenA (f := fs) hs st h) fun vs H1 ⟨z1, ds, hc1, x1, hs1, st1, r1, o1⟩ => ?_
  obtain ⟨rr, er, hq⟩ := o1.lift
  cases r1 with
  | nil => cases er
  | cons r t => cases t with
    | cons _ _ => cases er
    | nil =>
      obtain ⟨ks, e1, e2⟩ := Option.bind_eq_some_iff.mp er
      split at e2
      · rename_i hk
        cases e2
        simp only [Bool.and_eq_true, decide_eq_true_eq] at hk
        refine ⟨z1, hc1, _, _, ks, st1, rfl, r, e1, fun p hp => ?_⟩
        obtain ⟨x2, st2⟩ := st1.alloc (o := SetX X.w p ks) hp
        refine ⟨p, ks, rfl, upd_same, hk.1, hk.2, fun q hq' => ?_⟩
        obtain ⟨z3, x3, st3, r3⟩ := st2.newLst hq' (keys_rel (sortK ks))
        exact hq _ _ _ (x2.trans x3) st3 r3
      · cases e2
end
end Bo

set_option Elab.async false
set_option linter.all false
set_option maxRecDepth 100000
set_option maxHeartbeats 4000000
set_option autoImplicit false
/-! Bo12: join, displays of dicts, -x. -/
namespace Bo
open PySem PySem.Spec PyProof.Rows L2

/-! ### join -/
def strsOf : List D → Option (List Str)
  | [] => some []
  | .str x :: ds => (strsOf ds).map (x :: ·)
  | _ => none
theorem strsOf_rel {g : Gx} {z : Fz} : ∀ {ds : List D} {vs : List V} {ys : List Str}, strsOf ds = some ys → RelDs g z ds vs → vs = ys.map V.str
  | _, _, _, e, .nil => by cases e; rfl
  | _, _, _, e, .cons r t => by
    cases r with
    | str x =>
      obtain ⟨ys, e1, rfl⟩ := Option.map_eq_some_iff.mp e
      rw [strsOf_rel e1 t]; rfl
    | _ => cases e
def joinD (hc : Hc) (a : Str) (d : D) : Option D := (seqOf hc d).bind fun ds => (strsOf ds).bind fun ys => if (ys.map (·.length)).sum + ys.length * a.length ≤ 16777216 then some (.str (Txt.join a ys)) else none
def joinE (fo fe : Sl → Hc → Res D) : Sl → Hc → Res D := fun sl hc => (fo sl hc).bind fun d hc1 => match d with
  | .str a => (fe sl hc1).bind fun e hc2 => lift (joinD hc2 a e) hc2
  | _ => .bad
section
variable {X : Cx} {g : Gx} {W : WX} {k : Nat} {o e : Expr} {fo fe : Sl → Hc → Res D} {apos pos : Pos}
theorem e_join (c : Ct X g W k) (ho : PE X o (tI g W fo)) (he : PE X e (tI g W fe)) (hs : starEach [e] X.env = [(false, eval e X.env)] := by rfl) (hbase : attributeBase o "join" X.env (eval o X.env) = eval o X.env := by rfl) (hline : (apos.endLine == pos.line) = true := by rfl) :
    PE X (.Call (.Attribute o "join" apos) [e] [] pos) (tI g W (joinE fo fe)) := by
  refine pe_imp (pe_join ho he hs hbase hline) fun σ H Q ⟨z, sl, hc, hs, st, h⟩ => ?_
  refine tI.mono (OutE.thenE (f := fo) hs st h) fun v H1 ⟨z1, d1, hc1, x1, hs1, st1, r1, o1⟩ => ?_
  cases r1 with
  | str a =>
    refine ⟨⟨a, rfl⟩, tI.mono (OutE.thenE (f := fe) hs1 st1 o1) fun v H2 ⟨z2, d2, hc2, x2, hs2, st2, r2, o2⟩ => ?_⟩
    obtain ⟨rr, er, hq⟩ := o2.lift
    obtain ⟨ds, e1, e2⟩ := Option.bind_eq_some_iff.mp er
    obtain ⟨ys, e3, e4⟩ := Option.bind_eq_some_iff.mp e2
    split at e4
    · rename_i hz
      cases e4
      have lists : ∀ (e1 : hc2.lst? d2 = some ds), ∃ p, v = .ref p ∧ (SqL X.K H2 p (ys.map V.str) ∨ SqT X.K H2 p (ys.map V.str)) := fun e1 => by
        obtain ⟨p, xs, rfl, hl, rl⟩ := st2.list e1 r2
        have := strsOf_rel e3 rl
        subst this
        exact ⟨p, rfl, .inl (by rw [c.hK]; exact hl)⟩
      have tot : ∃ p, v = .ref p ∧ (SqL X.K H2 p (ys.map V.str) ∨ SqT X.K H2 p (ys.map V.str)) := by
        cases r2 with
        | tup h1 q1 =>
          cases e1
          have := strsOf_rel e3 q1
          subst this
          exact ⟨_, rfl, .inr (by rw [c.hK]; exact SqT.mono st2.sub h1)⟩
        | lst h1 q1 => exact lists e1
        | kl h1 q1 => exact lists e1
        | loc h1 => exact lists e1
        | _ => cases e1
      obtain ⟨p, rfl, hp⟩ := tot
      exact ⟨a, p, ys, rfl, rfl, hp, hz, hq _ _ _ (.refl _ _) st2 (.str _)⟩
    · cases e4
  | _ => exact o1.elim
/-! ### -x -/
def negD (_ : Hc) : D → Option D
  | .int i => some (.int (-i))
  | _ => none
theorem e_neg {a : Expr} {fa : Sl → Hc → Res D} (ha : PE X a (tI g W fa)) : PE X (.UnaryOp .USub a pos) (tI g W (unE negD fa)) := by
  refine pe_imp (pe_un un_neg ha) fun σ H Q ⟨z, sl, hc, hs, st, h⟩ => ?_
  refine tI.mono (OutE.thenE (f := fa) hs st h) fun v H1 ⟨z1, d1, hc1, x1, hs1, st1, r1, o1⟩ => ?_
  obtain ⟨rr, er, hq⟩ := o1.lift
  cases r1 with
  | int i => cases er; exact ⟨i, rfl, hq _ _ _ (.refl _ _) st1 (.int _)⟩
  | _ => cases er
end
/-! ### displays of dicts, their keys written out and all different -/
def dctE (ks : List Key) (fs : Sl → Hc → Res (List D)) : Sl → Hc → Res D := fun sl hc => (fs sl hc).bind fun ds hc1 => if ds.length = ks.length then .ok (.dct ks ds) hc1 else .bad
def DP (X : Cx) (g : Gx) (W : WX) (pos : Pos) (keys : List (Option Expr)) (values : List Expr) (ks : List Key) (fs : Sl → Hc → Res (List D)) : Prop :=
  ∃ trs, PPs X pos keys values trs ∧ ∀ σ H Q, aI g W fs σ H (fun vs H1 => vs.length = ks.length → Q ((ks.zip vs).map (fun kv => (kV kv.1, kv.2))) H1) → tPairs trs σ H Q
section
variable {X : Cx} {g : Gx} {W : WX} {k : Nat} {pos : Pos}
theorem dp_nil : DP X g W pos [] [] [] nA := ⟨[], pps_nil, fun σ H Q ⟨z, sl, hc, hs, st, h⟩ => h z H [] (.refl z H) st .nil rfl⟩
theorem dp_cons {x : Str} {n : Nat} {p : Pos} {v : Expr} {fv : Sl → Hc → Res D} {keys : List (Option Expr)} {values : List Expr} {ks : List Key} {fs : Sl → Hc → Res (List D)} (hv : PE X v (tI g W fv)) (h : DP X g W pos keys values ks fs) :
    DP X g W pos (some (.Constant (.str x) n p) :: keys) (v :: values) (.inr x :: ks) (kA fv fs) := by
  obtain ⟨trs, h1, h2⟩ := h
  refine ⟨_, pps_cons pe_str hv h1, fun σ H Q ⟨z, sl, hc, hs, st, h⟩ => ?_⟩
  refine tI.mono (OutA.thenE (f := fv) hs st h) fun v H1 ⟨z1, d1, hc1, x1, hs1, st1, r1, o1⟩ => ?_
  refine h2 _ _ _ (aI.mono (OutA.thenA (f := fs) hs1 st1 o1) fun ws H2 ⟨z2, d2, hc2, x2, hs2, st2, r2, o2⟩ => ?_)
  intro hl
  exact o2 z2 H2 _ (.refl z2 H2) st2 (.cons (r1.mono x2.le) r2) (by simp [hl])
theorem mergeK_id : ∀ (kvs acc : List (Key × V)), ((acc ++ kvs).map (·.1)).Nodup → mergeK acc kvs = acc ++ kvs
  | [], acc, _ => by simp [mergeK]
  | (k, v) :: kvs, acc, h => by
    have hput : putK acc k v = acc ++ [(k, v)] := by
      have hn : ∀ kv ∈ acc, kv.1 ≠ k := fun kv hkv e => by
        rw [List.map_append, List.nodup_append] at h
        exact h.2.2 kv.1 (List.mem_map.mpr ⟨kv, hkv, rfl⟩) k (by simp) e
      unfold putK
      rw [if_neg]
      intro q
      obtain ⟨kv, h1, h2⟩ := List.any_eq_true.mp q
      exact hn kv h1 (of_decide_eq_true h2)
    show mergeK (putK acc k v) kvs = _
    rw [hput, mergeK_id kvs (acc ++ [(k, v)]) (by simpa using h)]
    simp
theorem e_dct {keys : List (Option Expr)} {values : List Expr} {ks : List Key} {fs : Sl → Hc → Res (List D)} (h : DP X g W pos keys values ks fs) (hall : keys.all (·.isSome) = true := by rfl) (hl : keys.length = values.length := by rfl) (h0 : keys ≠ [] := by nofun)
    (h15 : keys.length ≤ 15 := by decide) (hk : ks.length ≤ 15 := by decide) (hn : ks.Nodup := by decide) : PE X (.Dict keys values pos) (tI g W (dctE ks fs)) := by
  obtain ⟨trs, h1, h2⟩ := h
  refine pe_imp (pe_disp h1 hall hl h0 h15) fun σ H Q ⟨z, sl, hc, hs, st, h⟩ => fun p hp => ?_
  have ap : Apart z p := StR.apart (H := H) (p := p) (by rw [del_none hp]; exact st)
  have st0 : StR g z (upd H p (.dK [])) hc := StR.fill (p := p) (by rw [del_of_upd, del_none hp]; exact st)
  refine h2 _ _ _ ?_
  have key : ∀ ds hc1, OutE g W z H σ (if ds.length = ks.length then .ok (.dct ks ds) hc1 else .bad) Q → ∀ z' H' vs, Ext z (upd H p (.dK [])) z' H' → StR g z' H' hc1 → RelDs g z' ds vs →
      vs.length = ks.length → H' p = some (.dK []) ∧ ∃ kvs : List (Key × V), (ks.zip vs).map (fun kv => (kV kv.1, kv.2)) = kvs.map (fun kv => (kV kv.1, kv.2)) ∧ kvs.length ≤ 15 ∧ Q (.ref p) (upd H' p (.dK (mergeK [] kvs))) := fun ds hc1 o z' H' vs x st' r hlen => by
    obtain ⟨x1, ap1, e1⟩ := x.hole (upd_same) ap
    rw [if_pos (by rw [r.length]; exact hlen)] at o
    rw [del_of_upd, del_none hp] at x1
    have st1 := st'.hole ap1
    obtain ⟨x2, st2⟩ := st1.alloc (o := .dK (ks.zip vs)) del_same
    rw [del_upd] at x2 st2
    refine ⟨e1, ks.zip vs, rfl, by rw [List.length_zip]; omega, ?_⟩
    have em : mergeK [] (ks.zip vs) = ks.zip vs := by
      rw [mergeK_id _ [] (by rw [List.nil_append, List.map_fst_zip (by omega)]; exact hn)]; rfl
    rw [em]
    exact o _ _ _ (x1.trans x2) st2 (.dct (show upd z'.F p _ p = _ from upd_same) (by rw [r.length]; exact hlen.symm) (r.mono x2.le))
  refine ⟨z, sl, hc, hs, st0, ?_⟩
  unfold dctE at h
  cases e : fs sl hc with
  | ok ds hc1 =>
    rw [e] at h
    exact fun z' H' vs x st' r => key ds hc1 h z' H' vs x st' r
  | exc c hc1 =>
    rw [e] at h
    intro z' H' x st'
    exact h z' H' ⟨x.le, fun a u h1 k => x.keep a u (by rw [upd_ne fun q => by subst q; rw [hp] at h1; cases h1]; exact h1) k, fun a u h1 => x.alive a u (by rw [upd_ne fun q => by subst q; rw [hp] at h1; cases h1]; exact h1), fun a u h1 k => by
      rcases x.fNew a u h1 k with q | q
      · by_cases e : a = p
        · subst e; exact .inl hp
        · rw [upd_ne e] at q; exact .inl q
      · exact .inr q, fun n a h1 k => by
      have q := x.rNew n a h1 k
      by_cases e : a = p
      · subst e; exact hp
      · rw [upd_ne e] at q; exact q⟩ st'
  | bad => rw [e] at h; exact h.elim
theorem e_dct0 : PE X (.Dict [] [] pos) (tI g W fun _ hc => .ok (.dct [] []) hc) := by
  refine pe_imp pe_dnewK fun σ H Q ⟨z, sl, hc, hs, st, h⟩ => fun p hp => ?_
  obtain ⟨x2, st2⟩ := st.alloc (o := .dK []) hp
  exact h _ _ _ x2 st2 (.dct (show upd z.F p _ p = some (.dK ([].zip [])) from upd_same) rfl .nil)
end
end Bo

set_option Elab.async false
set_option linter.all false
set_option maxRecDepth 100000
set_option maxHeartbeats 4000000
set_option autoImplicit false
/-! Bo13: the law's end: its def is called with the script, which is read as D.kl. -/
namespace Bo
open PySem PySem.Spec PyProof.Rows L2

/-- the empty small heap -/
def hc0 : Hc := ⟨0, []⟩
def scr (ns : List Int) : D := .kl (ns.map D.int)
theorem ints_rel {g : Gx} {z : Fz} : ∀ (ns : List Int), RelDs g z (ns.map D.int) (ns.map V.int)
  | [] => .nil
  | n :: ns => .cons (.int n) (ints_rel ns)
section
variable {P : Program} {w : World} {K : PySem.W.Frag} {mg mb : Str → Option Value} {k : Nat} {fa a : Addr} {fd : FuncData} {x : Str} {cl : List D → Hc → Res D} {s : Shared} {us : List Value} {ns : List Int} {g : Gx}
theorem law_from (G : Hp) (hO : Only G) (KX : K.In s.heap) (hns : s.heap.Ns mainGlobals mg) (hb : s.heap.Ns builtinsNs mb) (hbb : ∀ x : Str, x ≠ "__name__" → mb x = bootBuiltins x) (hlim : s.heap.NoLimit) (hg : s.gens = #[])
    (ha : s.heap.get? a = some { cls := .type "list", data := .seq us.toArray }) (hgK : K = g.K) (hr : Room k callerA) (hS : SqL K G a (ns.map V.int)) (hok : HOk P w G s.heap) (hA : ∀ b, G b ≠ none → b = a) (hK : G a ≠ none → K.lookup a = none)
    (F : ∀ base : Heap, K.In base → base.Ns mainGlobals mg → FnI P w K mg base g k fa fd [x] cl) (hbind : ∀ (s : Shared) (u : Value), BindsTo s fd ⟨[u], []⟩ [(x, u)])
    (hcl : ∃ h, cl [scr ns] hc0 = .ok (.bl true) h) :
    codeAny (model P w) callerA (.call (.ref fa) ⟨[.ref a], []⟩) (fun r t => r = .ok (.ret (.bool true)) ∧ OldK s.heap t.heap ∧ t.os = s.os ∧ AllBare t.gens) s := by
  have free : ∀ {b : Addr} {o : Obj}, s.heap.get? b = some o → (∀ it, o.data ≠ .seq it) → G b = none := fun {b o} e d => by
    cases q : G b with
    | none => rfl
    | some u =>
      have e' : b = a := hA b (by rw [q]; simp)
      subst e'
      rw [ha] at e
      cases e
      exact absurd rfl (d _)
  have nsG : ∀ {b : Addr} {m : Str → Option Value}, s.heap.Ns b m → (hidT s.heap G).Ns b m := fun {b m} ⟨o, es, ep, e, d, r⟩ =>
    ⟨o, es, ep, hidT_get e (free e fun it q => by rw [d] at q; cases q), d, r⟩
  have kG : K.In (hidT s.heap G) := fun b o e => hidT_get (KX b o e) (by
    cases q : G b with
    | none => rfl
    | some u =>
      have e' : b = a := hA b (by rw [q]; simp)
      subst e'
      rw [hK (by rw [q]; simp)] at e
      cases e)
  have md : Mod K mg (hidT s.heap G) := ⟨kG, nsG hns, ⟨mb, nsG hb, hbb⟩, let ⟨mc, h1, h2⟩ := hlim; ⟨mc, nsG h1, h2⟩⟩
  have ev : Env0 P w K mg (hidT s.heap G) callerA [] s G :=
    ⟨rfl, md, fun b o e => of_hidT e, Nat.le_of_eq (hidT_size _ _), trivial, fun b q => absurd (show b ∈ ([] : List Addr) from q) (by simp), hok, .of_eq hg⟩
  have st : StR g ⟨G, fun _ => none⟩ G hc0 := ⟨fun _ _ e => e, fun _ _ _ e => (nomatch e), fun _ _ e => (nomatch e), fun _ _ => rfl, fun _ _ e => (by cases e)⟩
  have rd : RelDs g ⟨G, fun _ => none⟩ [scr ns] [V.ref a] := .cons (.kl (by rw [← hgK]; exact hS) (ints_rel ns)) .nil
  obtain ⟨hc1, ec⟩ := hcl
  have out : OutC g ⟨G, fun _ => none⟩ G (cl [scr ns] hc0) (fun v _ => v = .bl true) (fun _ _ _ => False) := by
    rw [ec]
    intro z' H' v _ _ r
    cases r
    rfl
  refine codeAny_mono ((F _ kG (nsG hns)).run callerA [] s G ⟨[.ref a], []⟩ [.ref a] [.ref a] _ hc0 [scr ns] _ _ hr rfl ev (hbind s (.ref a)) (.cons rfl .nil) st rd out) fun r t h => ?_
  cases r with
  | error e =>
    obtain ⟨_, _, _, _, _, _, _, _, _, _, _, _, f⟩ := h
    exact f.elim
  | ok fl =>
    cases fl with
    | next => exact False.elim h
    | brk => exact False.elim h
    | cont => exact False.elim h
    | ret u =>
      obtain ⟨v, H', os, bare, un, hok', r', q⟩ := h
      have q' : v = .bl true := q
      subst q'
      obtain rfl : u = Value.bool true := r'
      refine ⟨rfl, OldK.of_keep fun b o e => ?_, os, bare⟩
      cases q : G b with
      | none => exact un.keep b o e q (by intro z; exact absurd (show b ∈ ([] : List Addr) from z) (by simp)) (by simp)
      | some u =>
        rcases hO b with z | ⟨ob, xs, z⟩
        · rw [q] at z
          cases z
        · obtain ⟨e1, _⟩ := hok b _ z
          obtain ⟨e2, _⟩ := hok' b _ (un.frzs b ob _ z)
          rw [e] at e1
          cases e1
          exact e2
theorem law_end (KX : K.In s.heap) (hns : s.heap.Ns mainGlobals mg) (hb : s.heap.Ns builtinsNs mb) (hbb : ∀ x : Str, x ≠ "__name__" → mb x = bootBuiltins x) (hlim : s.heap.NoLimit) (hg : s.gens = #[])
    (ha : s.heap.get? a = some { cls := .type "list", data := .seq us.toArray }) (hi : IntsAre us ns) (hl : ns.length ≤ sizeLine) (hgK : K = g.K) (hr : Room k callerA)
    (F : ∀ base : Heap, K.In base → base.Ns mainGlobals mg → FnI P w K mg base g k fa fd [x] cl) (hbind : ∀ (s : Shared) (u : Value), BindsTo s fd ⟨[u], []⟩ [(x, u)])
    (hcl : ∃ h, cl [scr ns] hc0 = .ok (.bl true) h) :
    codeAny (model P w) callerA (.call (.ref fa) ⟨[.ref a], []⟩) (fun r t => r = .ok (.ret (.bool true)) ∧ OldK s.heap t.heap ∧ t.os = s.os ∧ AllBare t.gens) s := by
  have rv := vals_ints hi
  have hlen := hi.length
  cases hk : K.lookup a with
  | some o =>
    have e := KX a o hk
    rw [ha] at e
    cases e
    refine law_from (ns := ns) (fun _ => none) (fun _ => .inl rfl) KX hns hb hbb hlim hg ha hgK hr (.inr ⟨_, us.toArray, _, hk, rfl, rfl, rfl, ?_, by simpa using rv⟩) (fun b u z => nomatch z) (fun b z => absurd rfl z) (fun z => absurd rfl z) F hbind hcl
    rw [List.size_toArray, hlen]
    exact hl
  | none =>
    obtain ⟨G, hG⟩ : ∃ G : Hp, G = fun b => if b = a then some (.frz { cls := .type "list", data := .seq us.toArray } (.lst (ns.map V.int))) else none := ⟨_, rfl⟩
    have g1 : G a = some (.frz { cls := .type "list", data := .seq us.toArray } (.lst (ns.map V.int))) := by rw [hG]; exact if_pos rfl
    have g2 : ∀ b, b ≠ a → G b = none := fun b h => by rw [hG]; exact if_neg h
    refine law_from (ns := ns) G (fun b => ?_) KX hns hb hbb hlim hg ha hgK hr (.inl (.inr ⟨_, g1⟩)) (fun b u z => ?_) (fun b z => ?_) (fun _ => hk) F hbind hcl
    · by_cases e : b = a
      · subst e; exact .inr ⟨_, _, g1⟩
      · exact .inl (g2 b e)
    · by_cases e : b = a
      · subst e
        rw [g1] at z
        cases z
        exact ⟨ha, by rw [List.length_map]; exact hl, us, _, rv, ha⟩
      · rw [g2 b e] at z
        cases z
    · by_cases e : b = a
      · exact e
      · exact absurd (g2 b e) z
end
/-- a law: F gives the written part, the function object, the promise over every base -/
theorem walk_I {l : PySem.W.OpenLaw} {n k : Nat} {q : Program} {loose : List Str} {XP : (Str → Option Value) → Heap → Prop} {YP : World → Heap → Prop} {d : DefRec} {x : Str} {cl : List D → Hc → Res D}
    (hn : l.most = some n) (hn2 : n ≤ sizeLine) (hdf : d.params.defaults = []) (hr : Room k callerA)
    (F : ∀ (w : World) (mg : Str → Option Value) (fa : Addr) (h : Heap), YP w h → h.Ns mainGlobals mg → mg d.name = some (.ref fa) →
      ∃ (g : Gx) (fd : FuncData), g.K.In h ∧ (∀ (s : Shared) (u : Value), BindsTo s fd ⟨[u], []⟩ [(x, u)]) ∧ ∀ base : Heap, g.K.In base → base.Ns mainGlobals mg → FnI l.prog w g.K mg base g k fa fd [x] cl)
    (hcl : ∀ ns : List Int, ns.length ≤ n → (∀ i ∈ ns, Builtin.Int.intBits i ≤ 1048576) → ∃ h, cl [scr ns] hc0 = .ok (.bl true) h) :
    PySem.W.WalkO q loose XP YP l.row.toRowW d [] (fun f vs => PySem.call f vs) := by
  refine Att.attach_callB hn hdf fun w s₀ s₁ mg mb fa o pm cd doc a vs ns G Y ho hd hcd hmg hobj hints hlen hbits hg => ?_
  obtain ⟨g, fd, KX, hb, hF⟩ := F w mg fa _ Y G.T.g hmg
  exact law_end KX G.T.g G.T.b G.T.builtins G.T.nolimit hg hobj hints (Nat.le_trans hlen hn2) rfl hr hF hb (hcl ns hlen hbits)
end Bo

set_option Elab.async false
set_option linter.all false
set_option maxRecDepth 100000
set_option maxHeartbeats 4000000
set_option autoImplicit false
/-! Bo14: what a translated text leans on: any iterable, levels, the head's facts. -/
namespace Bo
open PySem PySem.Spec PyProof.Rows L2

/-! ### any sequence is walked -/
def itA (hc : Hc) (d : D) : Option (List D) := match d with
  | .lst ds => some ds
  | .tup ds => some ds
  | .str x => itS hc (.str x)
  | _ => none
section
variable {X : Cx} {g : Gx} {W : WX} {kk : Nat} {tg e : Expr} {fa : Sl → Hc → Res D}
theorem i_any (c : Ct X g W kk) (ha : PE X e (tI g W fa)) : PI X tg e (iI g W (itE itA fa)) := by
  refine ⟨fun pins s σ H R I ⟨z, sl, hc, hs, st, h⟩ => ?_⟩
  have hit : ∀ (k : Hc → D → Option (List D)), itE k fa sl hc = itE itA fa sl hc → iI g W (itE k fa) σ H R := fun k e => ⟨z, sl, hc, hs, st, by rw [e]; exact h⟩
  cases e1 : fa sl hc with
  | ok d hc1 =>
    cases d with
    | lst ds => exact (i_lst ha).run pins s σ H R I (hit itL (by unfold itE; rw [e1]; rfl))
    | tup ds => exact (i_tup c ha).run pins s σ H R I (hit itT (by unfold itE; rw [e1]; rfl))
    | str x => exact (i_str ha).run pins s σ H R I (hit itS (by unfold itE; rw [e1]; rfl))
    | _ => exact (by unfold itE at h; rw [e1] at h; exact h.elim)
  | exc cc hc1 => exact (i_lst ha).run pins s σ H R I (hit itL (by unfold itE; rw [e1]; rfl))
  | bad => exact (by unfold itE at h; rw [e1] at h; exact h.elim)
end
/-! ### levels -/
section
variable {P : Program} {w : World} {K : PySem.W.Frag} {mg : Str → Option Value} {base : Heap} {g : Gx} {j k : Nat} {x : Str} {cl : List D → Hc → Res D}
theorem FnI.mono {f : Addr} {fd : FuncData} {ps : List Str} (F : FnI P w K mg base g j f fd ps cl) (h : j ≤ k) : FnI P w K mg base g k f fd ps cl :=
  ⟨F.len, fun A outer s H args us vs z hc ds Q E hr => F.run A outer s H args us vs z hc ds Q E (hr.mono h)⟩
theorem FnT.mono (F : FnT P w K mg base g j x cl) (h : j ≤ k) : FnT P w K mg base g k x cl := by
  obtain ⟨f, fd, ps, h1, h2⟩ := F.ex
  exact ⟨f, fd, ps, h1.mono h, h2⟩
/-- a def of the module's top -/
def TopD (K : PySem.W.Frag) (mg : Str → Option Value) (x : Str) (s : Stmt) : Prop := ∃ f fd, FunD K x x (defArgs s) (defBody s) (defScope s) [] [] f fd ∧ mg x = some (.ref f)
theorem FnT.of {N ps : List Str} {s : Stmt} {fb : Sl → Hc → RS} (F : TopD K mg x s) (S : FnScope N ps (defScope s)) (hgK : K = g.K)
    (hbn : ∀ (kV doc pm : Value) (an : Option Addr) (cdv ct : Value) (us : List Value), us.length = ps.length → bindArgs (PySem.W.fnOf x x (defArgs s) (defBody s) (defScope s) .none kV doc pm an cdv ct) ⟨us, []⟩ = pure (ps.zip us))
    (hb : ∀ (f : Addr) (cdv : Value) (A : Around) (outer : List Env) (sh : Shared) (H : Hp) (E : XK), Ct (cxB P w K mg base N x (defScope s) f cdv A outer sh H E) g (fun cls d _ H => E cls d H) k → PassesOwn (model P w) (cxB P w K mg base N x (defScope s) f cdv A outer sh H E).A (cxB P w K mg base N x (defScope s) f cdv A outer sh H E).env (cxB P w K mg base N x (defScope s) f cdv A outer sh H E).xe →
      PSs (cxB P w K mg base N x (defScope s) f cdv A outer sh H E) (defBody s) (sI g (fun cls d _ H => E cls d H) fb)) :
    FnT P w K mg base g (k + 1) x (fnR ps.length N.length fb) := by
  obtain ⟨f, fd, F, hm⟩ := F
  exact ⟨f, fd, ps, fn_body F S hgK (hb f), F.bindsN hbn, hm, F.kp⟩
end
/-! ### the head's facts, with more of one's own -/
abbrev AlX : Type := He.AlD × Bool
def obsX (fa : List He.Fa) (fn : List He.DefD) (ex : List (PySem.W.Frag → Bool)) (K : PySem.W.Frag) : AlX := (He.obsD fa fn K, ex.all fun f => f K)
def valX (fn : List He.DefD) : AlX := (He.valD fn, true)
def SaysX (fa : List He.Fa) (fn : List He.DefD) (ex : List (PySem.W.Frag → Bool)) (K : PySem.W.Frag) : Prop := obsX fa fn ex K = valX fn
def obsXG (n : Nat) (fa : List He.Fa) (fn : List He.DefD) (ex : List (PySem.W.Frag → Bool)) (g : Addr → Option Obj) : AlX := obsX fa fn ex (He.frG g (He.asD g n))
def hookX (n : Nat) (fa : List He.Fa) (fn : List He.DefD) (ex : List (PySem.W.Frag → Bool)) : PySem.W.Hook where
  α := AlX
  obs := fun s => obsXG n fa fn ex s.heap.get?
  val := fun _ => valX fn
  says := fun _ h => ∃ K : PySem.W.Frag, K.In h ∧ SaysX fa fn ex K
  of := fun _ _ e => ⟨_, He.frG_in, e⟩
  keeps := fun _ _ _ ⟨K, hK, c⟩ k => ⟨K, PySem.W.Frag.In.keeps hK k, c⟩
theorem obsXG_eq {n : Nat} {fa : List He.Fa} {fn : List He.DefD} {ex : List (PySem.W.Frag → Bool)} {g : Addr → Option Obj} {s : Shared} (h : ∀ a, g a = s.heap.get? a) : obsXG n fa fn ex g = (hookX n fa fn ex).obs s := by
  have e : g = s.heap.get? := funext h
  subst e
  rfl
section
variable {fa : List He.Fa} {fn : List He.DefD} {ex : List (PySem.W.Frag → Bool)} {K : PySem.W.Frag}
theorem SaysX.d (c : SaysX fa fn ex K) : He.SaysD fa fn K := congrArg (fun z : AlX => z.1) c
theorem SaysX.more (c : SaysX fa fn ex K) (i : Nat) {f : PySem.W.Frag → Bool} (h : ex[i]? = some f := by rfl) : f K = true :=
  List.all_eq_true.mp (show (ex.all fun f => f K) = true from congrArg (fun z : AlX => z.2) c) f (List.mem_of_getElem? h)
end
theorem dIsRel {g : Gx} {z : Fz} : ∀ (xs : List Str), RelDs g z (xs.map D.str) (xs.map V.str)
  | [] => .nil
  | x :: xs => .cons (.str x) (dIsRel xs)
/-- a constant of the top -/
def TopI (mg : Str → Option Value) (x : Str) (i : Int) : Prop := ∃ t, mg x = some (.int i t)
def TopS (mg : Str → Option Value) (x y : Str) : Prop := ∃ t, mg x = some (.str y t)
/-- a tuple of texts of the top -/
def TopTS (K : PySem.W.Frag) (mg : Str → Option Value) (x : Str) (ys : List Str) : Prop := ∃ a, mg x = some (.ref a) ∧ ∀ H, SqT K H a (ys.map V.str)
section
variable {X : Cx} {g : Gx} {W : WX} {kk : Nat} {x : Str} {pos : Pos}
theorem e_gi {i : Int} (h : TopI X.mg x i) (hg : Gl X x := by rfl) (hd : (x == ("__debug__" : Str)) = false := by decide) : PE X (.Name x pos) (tI g W (cE (.int i))) := by
  obtain ⟨t, h⟩ := h
  exact e_gcs (v := .int i) h ⟨t, rfl⟩ (fun _ => .int i) hg hd
theorem e_gs {y : Str} (h : TopS X.mg x y) (hg : Gl X x := by rfl) (hd : (x == ("__debug__" : Str)) = false := by decide) : PE X (.Name x pos) (tI g W (cE (.str y))) := by
  obtain ⟨t, h⟩ := h
  exact e_gcs (v := .str y) h ⟨t, rfl⟩ (fun _ => .str y) hg hd
theorem e_gt {ys : List Str} (c : Ct X g W kk) (h : TopTS X.K X.mg x ys) (hg : Gl X x := by rfl) (hd : (x == ("__debug__" : Str)) = false := by decide) : PE X (.Name x pos) (tI g W (cE (.tup (ys.map D.str)))) := by
  obtain ⟨a, h, q⟩ := h
  exact e_gcs (v := .ref a) h rfl (fun z => .tup (by rw [← c.hK]; exact q z.F) (dIsRel ys)) hg hd
end
def reprA (hc : Hc) (ds : List D) : Option D := match ds with
  | [d] => reprD hc d
  | _ => none
theorem b_reprA {X : Cx} {g : Gx} {W : WX} {k : Nat} (c : Ct X g W k) : CallR X (.builtin "repr") (rA g reprA) := by
  intro pins s σ H xs us Q I r h
  refine b_repr c pins s σ H xs us Q I r ?_
  obtain ⟨z, hc, ds, rr, st, rd, er, q⟩ := h
  refine ⟨z, hc, ds, rr, st, rd, ?_, q⟩
  rw [← er]
  unfold reprA
  cases ds with
  | nil => rfl
  | cons a l => cases l <;> rfl
theorem tupS_ok {K : PySem.W.Frag} {mg : Str → Option Value} {h : Heap} {x : Str} {ys : List Str} (X : K.In h) (G : h.Ns mainGlobals mg) (g : (He.Fa.glo x).ok K = true) (t : He.tupB K x (ys.map He.Dv.str) = true) : TopTS K mg x ys := by
  refine ⟨_, He.glo_ok X G g, fun H => ?_⟩
  have := He.tupB_ok t H
  rw [List.map_map] at this
  exact this
end Bo

set_option Elab.async false
set_option linter.all false
set_option maxRecDepth 100000
set_option maxHeartbeats 4000000
set_option autoImplicit false
/-! Bo15: the laws' pen: a draw under n gives one of 0 .. n - 1. Plain mathematics. -/
namespace Bo
open PySem PySem.Spec PyProof.Rows L2

def d_pen : Sl → Hc → RS :=
  retS (newE (kA (blE listD (kA (slE (vE 0) nO (sO (cE (.int 60)))) (nA))) (kA (cE (.int 0)) (kA (cE (.int 0)) (nA)))))
def c_pen : List D → Hc → Res D := fnR 1 1 d_pen
def d_next : Sl → Hc → RS :=
  seqS (asgS 1 (opE ixD (vE 0) (cE (.int 1))))
  (seqS (subS (vE 0) (cE (.int 1)) (opE addD (vE 1) (cE (.int 1))))
  (seqS (asgS 2 (opE addD (opE mulD (vE 1) (cE (.int 1087))) (cE (.int 73))))
  (seqS (ifS (bT (opE neO (opE ixD (vE 0) (cE (.int 0))) (lstE (nA)))) (asgS 2 (opE ixD (opE ixD (vE 0) (cE (.int 0))) (opE modD (blE intD (kA (vE 1) (nA))) (blE lenD (kA (opE ixD (vE 0) (cE (.int 0))) (nA)))))) (nS))
  (seqS (ifS (andT (bT (opE ltO (vE 1) (blE lenD (kA (opE ixD (vE 0) (cE (.int 0))) (nA))))) (bT (opE geO (vE 2) (opE powD (cE (.int 10)) (cE (.int 18)))))) (retS (vE 2)) (nS))
  (seqS (asgS 3 (opE modD (blE intD (kA (opE addD (opE addD (opE modD (blE intD (kA (vE 2) (nA))) (cE (.int 2147483587))) (opE mulD (vE 1) (cE (.int 30133)))) (cE (.int 101))) (nA))) (cE (.int 2147483587))))
  (seqS (asgS 4 (opE modD (blE intD (kA (opE addD (opE addD (opE mulD (vE 3) (vE 3)) (opE mulD (vE 1) (cE (.int 70111)))) (cE (.int 73))) (nA))) (cE (.int 2147483563))))
  (seqS (asgS 5 (opE modD (blE intD (kA (opE addD (opE addD (opE mulD (vE 4) (vE 4)) (vE 3)) (opE mulD (opE mulD (vE 1) (vE 1)) (cE (.int 47)))) (nA))) (cE (.int 2147483549))))
  (retS (opE addD (opE mulD (opE addD (opE mulD (vE 5) (cE (.int 2147483587))) (vE 4)) (cE (.int 2147483563))) (vE 3))))))))))
def c_next : List D → Hc → Res D := fnR 1 6 d_next
def d_draw : Sl → Hc → RS :=
  seqS (ifS (bT (opE ltO (opE ixD (vE 0) (cE (.int 2))) (vE 1))) (subS (vE 0) (cE (.int 2)) (callE c_next (kA (vE 0) (nA)))) (nS))
  (seqS (asgS 2 (opE modD (blE intD (kA (opE ixD (vE 0) (cE (.int 2))) (nA))) (vE 1)))
  (seqS (subS (vE 0) (cE (.int 2)) (opE fdivD (opE ixD (vE 0) (cE (.int 2))) (vE 1)))
  (retS (vE 2))))
def c_draw : List D → Hc → Res D := fnR 2 3 d_draw

/-- the pen at p -/
def PenAt (hc : Hc) (p : Nat) (cs : List Int) (i v : Int) : Prop := hc.get p = some (.lst [.lst (cs.map D.int), .int i, .int v])
/-- all but the pen is as it was -/
structure Same (p : Nat) (hc hc' : Hc) : Prop where
  nx : hc'.next = hc.next
  get : ∀ q, q ≠ p → hc'.get q = hc.get q
  sh : ∀ (pre : List (Nat × Ob)) (o : Ob), hc.m = pre ++ [(p, o)] → (∀ x ∈ pre, x.1 ≠ p) → ∃ o', hc'.m = pre ++ [(p, o')]
theorem Same.refl (p : Nat) (hc : Hc) : Same p hc hc := ⟨rfl, fun _ _ => rfl, fun _ o h _ => ⟨o, h⟩⟩
theorem Same.trans {p : Nat} {a b c : Hc} (x : Same p a b) (y : Same p b c) : Same p a c := ⟨y.1.trans x.1, fun q h => (y.2 q h).trans (x.2 q h), fun pre o h hp => let ⟨o', h'⟩ := x.3 pre o h hp; y.3 pre o' h' hp⟩
theorem setM_end {p : Nat} {o o' : Ob} : ∀ (pre : List (Nat × Ob)), (∀ x ∈ pre, x.1 ≠ p) → setM p o' (pre ++ [(p, o)]) = pre ++ [(p, o')]
  | [], _ => by simp [setM]
  | a :: r, h => by
    have e : setM p o' ((a :: r) ++ [(p, o)]) = a :: setM p o' (r ++ [(p, o)]) := by
      rw [List.cons_append, setM, if_neg (h a List.mem_cons_self)]
    rw [e, setM_end r fun x hx => h x (List.mem_cons_of_mem _ hx)]
    rfl
theorem same_set {p : Nat} {hc : Hc} {o : Ob} : Same p hc (hc.set p o) := ⟨rfl, fun q h => by rw [Hc.get_set, if_neg h], fun pre o1 h hp => ⟨o, by show setM p o hc.m = _; rw [h]; exact setM_end pre hp⟩⟩
theorem pen_set {p : Nat} {hc : Hc} {cs : List Int} {i v i' v' : Int} (h : PenAt hc p cs i v) : PenAt (hc.set p (.lst [.lst (cs.map D.int), .int i', .int v'])) p cs i' v' := by
  unfold PenAt at *
  rw [Hc.get_set, if_pos rfl, h]
  rfl
section
variable {hc : Hc} {p : Nat} {cs : List Int} {i v : Int}
theorem pen_lst (h : PenAt hc p cs i v) : hc.lst? (.loc p) = some [.lst (cs.map D.int), .int i, .int v] := by
  unfold PenAt at h
  simp only [Hc.lst?, h]
theorem pen0 (h : PenAt hc p cs i v) : ixD hc (.loc p) (.int 0) = some (.lst (cs.map D.int)) := by simp only [ixD, pen_lst h]; rfl
theorem pen1 (h : PenAt hc p cs i v) : ixD hc (.loc p) (.int 1) = some (.int i) := by simp only [ixD, pen_lst h]; rfl
theorem pen2 (h : PenAt hc p cs i v) : ixD hc (.loc p) (.int 2) = some (.int v) := by simp only [ixD, pen_lst h]; rfl
theorem put1 (h : PenAt hc p cs i v) (j : Int) : putD hc (.loc p) (.int 1) (.int j) = some (hc.set p (.lst [.lst (cs.map D.int), .int j, .int v])) := by
  unfold PenAt at h
  simp only [putD, h]; rfl
theorem put2 (h : PenAt hc p cs i v) (j : Int) : putD hc (.loc p) (.int 2) (.int j) = some (hc.set p (.lst [.lst (cs.map D.int), .int i, .int j])) := by
  unfold PenAt at h
  simp only [putD, h]; rfl
theorem cell_of (cs : List Int) (i : Int) (h0 : cs ≠ []) : ∃ c, ixD hc (.lst (cs.map D.int)) (.int (i % (cs.length : Int))) = some (.int c) := by
  have hp : 0 < (cs.length : Int) := by
    have := List.length_pos_iff.mpr h0
    omega
  have h1 := Int.emod_nonneg i (show (cs.length : Int) ≠ 0 by omega)
  have h2 := Int.emod_lt_of_pos i hp
  obtain ⟨k, hk⟩ : ∃ k : Nat, i % (cs.length : Int) = k := ⟨(i % (cs.length : Int)).toNat, by omega⟩
  have hlt : k < cs.length := by omega
  refine ⟨cs[k], ?_⟩
  rw [hk]
  show atI (cs.map D.int) (k : Int) = _
  unfold atI
  have : ixN (cs.map D.int).length (k : Int) = some k := by
    unfold ixN
    simp
    omega
  rw [this]
  simp [List.getElem?_eq_getElem hlt]
end

theorem toPys_ints : ∀ cs : List Int, toPys (cs.map D.int) = some (cs.map PyData.int)
  | [] => rfl
  | c :: cs => by
    have := toPys_ints cs
    simp only [List.map_cons, toPys, toPy, this, Option.bind_some, Option.map_some]
theorem lay_ints : ∀ cs : List Int, PyData.canLayAll0 (cs.map PyData.int) = true
  | [] => by simp only [List.map_nil, PyData.canLayAll0]
  | c :: cs => by simp only [List.map_cons, PyData.canLayAll0, PyData.canLay0, lay_ints cs, Bool.and_self]
theorem depth_ints : ∀ cs : List Int, PyData.depthAll (cs.map PyData.int) ≤ 1
  | [] => by simp [PyData.depthAll]
  | c :: cs => by
    have := depth_ints cs
    rw [List.map_cons, PyData.depthAll]
    exact Nat.max_le.mpr ⟨by simp [PyData.depth], this⟩
theorem neO_nil (hc : Hc) (cs : List Int) : neO hc (.lst (cs.map D.int)) (.lst []) = some (.bl (!cs.isEmpty)) := by
  have h1 : SeqAt.shaped (.list (cs.map PyData.int)) = true := by
    have := depth_ints cs
    unfold SeqAt.shaped
    rw [Bool.and_eq_true]
    exact ⟨by simp only [PyData.canLay0, lay_ints], decide_eq_true (by rw [PyData.depth]; omega)⟩
  have h2 : SeqAt.shaped (.list []) = true := by decide
  have e : eqD hc (.lst (cs.map D.int)) (.lst []) = some cs.isEmpty := by
    show (match toPy1 hc (.lst (cs.map D.int)), toPy1 hc (.lst []) with
      | some p, some q => if SeqAt.shaped p && SeqAt.shaped q then some (PyData.eqv p q) else none
      | _, _ => none) = _
    have t1 : toPy1 hc (.lst (cs.map D.int)) = some (.list (cs.map PyData.int)) := by
      show toPy (.lst (cs.map D.int)) = _
      simp only [toPy, toPys_ints, Option.map_some]
    have t2 : toPy1 hc (.lst []) = some (.list []) := by
      show toPy (.lst []) = _
      simp only [toPy, toPys, Option.map_some]
    rw [t1, t2]
    simp only [h1, h2, Bool.and_self, if_true]
    cases cs with
    | nil => simp [PyData.eqv, PyData.eqvAll]
    | cons c cs => simp [PyData.eqv, PyData.eqvAll]
  unfold neO
  rw [e]
  rfl
def d_tail : Sl → Hc → RS :=
  seqS (asgS 3 (opE modD (blE intD (kA (opE addD (opE addD (opE modD (blE intD (kA (vE 2) (nA))) (cE (.int 2147483587))) (opE mulD (vE 1) (cE (.int 30133)))) (cE (.int 101))) (nA))) (cE (.int 2147483587))))
  (seqS (asgS 4 (opE modD (blE intD (kA (opE addD (opE addD (opE mulD (vE 3) (vE 3)) (opE mulD (vE 1) (cE (.int 70111)))) (cE (.int 73))) (nA))) (cE (.int 2147483563))))
  (seqS (asgS 5 (opE modD (blE intD (kA (opE addD (opE addD (opE mulD (vE 4) (vE 4)) (vE 3)) (opE mulD (opE mulD (vE 1) (vE 1)) (cE (.int 47)))) (nA))) (cE (.int 2147483549))))
  (retS (opE addD (opE mulD (opE addD (opE mulD (vE 5) (cE (.int 2147483587))) (vE 4)) (cE (.int 2147483563))) (vE 3)))))
theorem mul_l {hc : Hc} {a b : Int} (h0 : 0 ≤ a) (h : a < 2 ^ 64) : mulD hc (.int a) (.int b) = some (.int (a * b)) := by
  have : small64 a = true := by
    unfold small64
    rw [Bool.and_eq_true]
    exact ⟨decide_eq_true (by omega), decide_eq_true h⟩
  simp only [mulD, this, Bool.true_or, if_true]
theorem mul_r {hc : Hc} {a b : Int} (h0 : 0 ≤ b) (h : b < 2 ^ 64) : mulD hc (.int a) (.int b) = some (.int (a * b)) := by
  have : small64 b = true := by
    unfold small64
    rw [Bool.and_eq_true]
    exact ⟨decide_eq_true (by omega), decide_eq_true h⟩
  simp only [mulD, this, Bool.or_true, if_true]
theorem mod_p {hc : Hc} {a b : Int} (h : 0 < b) : modD hc (.int a) (.int b) = some (.int (a % b)) := by simp only [modD, h, if_true]
theorem tail_spec {hc : Hc} {x : D} {i c : Int} {a b e : Option D} (hi : 0 ≤ i) (hi2 : i < 2 ^ 62) : ∃ r, d_tail [some x, some (.int i), some (.int c), a, b, e] hc = .rt (.int r) hc ∧ 0 ≤ r := by
  obtain ⟨s, hs⟩ : ∃ s : Int, s = (c % 2147483587 + i * 30133 + 101) % 2147483587 := ⟨_, rfl⟩
  obtain ⟨m, hm⟩ : ∃ m : Int, m = (s * s + i * 70111 + 73) % 2147483563 := ⟨_, rfl⟩
  obtain ⟨t, ht⟩ : ∃ t : Int, t = (m * m + s + i * i * 47) % 2147483549 := ⟨_, rfl⟩
  have s0 : 0 ≤ s ∧ s < 2147483587 := by omega
  have m0 : 0 ≤ m ∧ m < 2147483563 := by
    rw [hm]
    exact ⟨Int.emod_nonneg _ (by decide), Int.emod_lt_of_pos _ (by decide)⟩
  have t0 : 0 ≤ t ∧ t < 2147483549 := by
    rw [ht]
    exact ⟨Int.emod_nonneg _ (by decide), Int.emod_lt_of_pos _ (by decide)⟩
  refine ⟨(t * 2147483587 + m) * 2147483563 + s, ?_, by omega⟩
  have e1 : mulD hc (.int i) (.int 30133) = some (.int (i * 30133)) := mul_r (by decide) (by decide)
  have e2 : mulD hc (.int s) (.int s) = some (.int (s * s)) := mul_l s0.1 (by omega)
  have e3 : mulD hc (.int i) (.int 70111) = some (.int (i * 70111)) := mul_r (by decide) (by decide)
  have e4 : mulD hc (.int m) (.int m) = some (.int (m * m)) := mul_l m0.1 (by omega)
  have e5 : mulD hc (.int i) (.int i) = some (.int (i * i)) := mul_l hi (by omega)
  have e6 : mulD hc (.int (i * i)) (.int 47) = some (.int (i * i * 47)) := mul_r (by decide) (by decide)
  have e7 : mulD hc (.int t) (.int 2147483587) = some (.int (t * 2147483587)) := mul_r (by decide) (by decide)
  have e8 : mulD hc (.int (t * 2147483587 + m)) (.int 2147483563) = some (.int ((t * 2147483587 + m) * 2147483563)) := mul_r (by decide) (by decide)
  have f1 : ∀ a : Int, modD hc (.int a) (.int 2147483587) = some (.int (a % 2147483587)) := fun a => mod_p (by decide)
  have f2 : ∀ a : Int, modD hc (.int a) (.int 2147483563) = some (.int (a % 2147483563)) := fun a => mod_p (by decide)
  have f3 : ∀ a : Int, modD hc (.int a) (.int 2147483549) = some (.int (a % 2147483549)) := fun a => mod_p (by decide)
  unfold d_tail
  simp only [fnR, startS, seqS, ifS, retS, asgS, exS, nS, subS, Res.toS, Res.bind, vE, cE, opE, unE, blE, kA, nA, callE, lift, andT, orT, nT, bT, List.getElem?_cons_zero, List.getElem?_cons_succ, List.set_cons_zero, List.set_cons_succ, List.map_cons, List.map_nil, List.length_cons, List.length_nil, List.replicate_succ, List.replicate_zero, List.cons_append, List.nil_append, Nat.reduceAdd, Nat.reduceSub, Nat.add_one_sub_one, if_true, if_false, reduceIte, Bool.false_eq_true, intD, addD, f1, f2, f3, e1]
  simp only [fnR, startS, seqS, ifS, retS, asgS, exS, nS, subS, Res.toS, Res.bind, vE, cE, opE, unE, blE, kA, nA, callE, lift, andT, orT, nT, bT, List.getElem?_cons_zero, List.getElem?_cons_succ, List.set_cons_zero, List.set_cons_succ, List.map_cons, List.map_nil, List.length_cons, List.length_nil, List.replicate_succ, List.replicate_zero, List.cons_append, List.nil_append, Nat.reduceAdd, Nat.reduceSub, Nat.add_one_sub_one, if_true, if_false, reduceIte, Bool.false_eq_true, intD, addD, f1, f2, f3, ← hs, e2, e3]
  simp only [fnR, startS, seqS, ifS, retS, asgS, exS, nS, subS, Res.toS, Res.bind, vE, cE, opE, unE, blE, kA, nA, callE, lift, andT, orT, nT, bT, List.getElem?_cons_zero, List.getElem?_cons_succ, List.set_cons_zero, List.set_cons_succ, List.map_cons, List.map_nil, List.length_cons, List.length_nil, List.replicate_succ, List.replicate_zero, List.cons_append, List.nil_append, Nat.reduceAdd, Nat.reduceSub, Nat.add_one_sub_one, if_true, if_false, reduceIte, Bool.false_eq_true, intD, addD, f1, f2, f3, ← hm, e4, e5, e6]
  simp only [fnR, startS, seqS, ifS, retS, asgS, exS, nS, subS, Res.toS, Res.bind, vE, cE, opE, unE, blE, kA, nA, callE, lift, andT, orT, nT, bT, List.getElem?_cons_zero, List.getElem?_cons_succ, List.set_cons_zero, List.set_cons_succ, List.map_cons, List.map_nil, List.length_cons, List.length_nil, List.replicate_succ, List.replicate_zero, List.cons_append, List.nil_append, Nat.reduceAdd, Nat.reduceSub, Nat.add_one_sub_one, if_true, if_false, reduceIte, Bool.false_eq_true, intD, addD, f1, f2, f3, ← ht, e7, e8]
section
variable {hc : Hc} {p : Nat} {cs : List Int} {i v : Int}
theorem next_spec (h : PenAt hc p cs i v) (hi : 0 ≤ i) (hi2 : i < 2 ^ 62) : ∃ r hc', c_next [.loc p] hc = .ok (.int r) hc' ∧ 0 ≤ r ∧ PenAt hc' p cs (i + 1) v ∧ Same p hc hc' := by
  obtain ⟨hc1, h1e⟩ : ∃ hc1, hc1 = hc.set p (.lst [.lst (cs.map D.int), .int (i + 1), .int v]) := ⟨_, rfl⟩
  have h1 : PenAt hc1 p cs (i + 1) v := h1e ▸ pen_set h
  have hs : Same p hc hc1 := h1e ▸ same_set
  have em : mulD hc1 (.int i) (.int 1087) = some (.int (i * 1087)) := mul_r (by decide) (by decide)
  have ep : powD hc1 (.int 10) (.int 18) = some (.int 1000000000000000000) := rfl
  have el : lenD hc1 [.lst (cs.map D.int)] = some (.int (cs.length : Int)) := by
    simp only [lenD, Hc.lst?, Option.map_some, List.length_map]
  have key : ∀ (c : Int), ∃ r, seqS (ifS (andT (bT (opE ltO (vE 1) (blE lenD (kA (opE ixD (vE 0) (cE (.int 0))) (nA))))) (bT (opE geO (vE 2) (opE powD (cE (.int 10)) (cE (.int 18)))))) (retS (vE 2)) (nS)) d_tail [some (.loc p), some (.int i), some (.int c), none, none, none] hc1 = .rt (.int r) hc1 ∧ 0 ≤ r := fun c => by
    obtain ⟨r, hr, h0⟩ := tail_spec (hc := hc1) (x := .loc p) (i := i) (c := c) (a := none) (b := none) (e := none) hi hi2
    by_cases q1 : i < (cs.length : Int)
    · by_cases q2 : (1000000000000000000 : Int) ≤ c
      · refine ⟨c, ?_, by omega⟩
        simp only [fnR, startS, seqS, ifS, retS, asgS, exS, nS, subS, Res.toS, Res.bind, vE, cE, opE, unE, blE, kA, nA, callE, lift, andT, orT, nT, bT, List.getElem?_cons_zero, List.getElem?_cons_succ, List.set_cons_zero, List.set_cons_succ, List.map_cons, List.map_nil, List.length_cons, List.length_nil, List.replicate_succ, List.replicate_zero, List.cons_append, List.nil_append, Nat.reduceAdd, Nat.reduceSub, Nat.add_one_sub_one, if_true, if_false, reduceIte, Bool.false_eq_true, pen0 h1, el, ltO, geO, ep, q1, q2, decide_true]
      · refine ⟨r, ?_, h0⟩
        rw [← hr]
        simp only [fnR, startS, seqS, ifS, retS, asgS, exS, nS, subS, Res.toS, Res.bind, vE, cE, opE, unE, blE, kA, nA, callE, lift, andT, orT, nT, bT, List.getElem?_cons_zero, List.getElem?_cons_succ, List.set_cons_zero, List.set_cons_succ, List.map_cons, List.map_nil, List.length_cons, List.length_nil, List.replicate_succ, List.replicate_zero, List.cons_append, List.nil_append, Nat.reduceAdd, Nat.reduceSub, Nat.add_one_sub_one, if_true, if_false, reduceIte, Bool.false_eq_true, pen0 h1, el, ltO, geO, ep, q1, q2, decide_true, decide_false]
    · refine ⟨r, ?_, h0⟩
      rw [← hr]
      simp only [fnR, startS, seqS, ifS, retS, asgS, exS, nS, subS, Res.toS, Res.bind, vE, cE, opE, unE, blE, kA, nA, callE, lift, andT, orT, nT, bT, List.getElem?_cons_zero, List.getElem?_cons_succ, List.set_cons_zero, List.set_cons_succ, List.map_cons, List.map_nil, List.length_cons, List.length_nil, List.replicate_succ, List.replicate_zero, List.cons_append, List.nil_append, Nat.reduceAdd, Nat.reduceSub, Nat.add_one_sub_one, if_true, if_false, reduceIte, Bool.false_eq_true, pen0 h1, el, ltO, q1, decide_false]
  by_cases hn : cs = []
  · obtain ⟨r, hr, h0⟩ := key (i * 1087 + 73)
    refine ⟨r, hc1, ?_, h0, h1, hs⟩
    have en := neO_nil hc1 cs
    rw [hn] at en
    have en' : neO hc1 (.lst (cs.map D.int)) (.lst []) = some (.bl false) := by rw [hn]; exact en
    have : d_next = seqS (asgS 1 (opE ixD (vE 0) (cE (.int 1)))) (seqS (subS (vE 0) (cE (.int 1)) (opE addD (vE 1) (cE (.int 1)))) (seqS (asgS 2 (opE addD (opE mulD (vE 1) (cE (.int 1087))) (cE (.int 73))))
      (seqS (ifS (bT (opE neO (opE ixD (vE 0) (cE (.int 0))) (lstE (nA)))) (asgS 2 (opE ixD (opE ixD (vE 0) (cE (.int 0))) (opE modD (blE intD (kA (vE 1) (nA))) (blE lenD (kA (opE ixD (vE 0) (cE (.int 0))) (nA)))))) (nS))
      (seqS (ifS (andT (bT (opE ltO (vE 1) (blE lenD (kA (opE ixD (vE 0) (cE (.int 0))) (nA))))) (bT (opE geO (vE 2) (opE powD (cE (.int 10)) (cE (.int 18)))))) (retS (vE 2)) (nS)) d_tail)))) := rfl
    unfold c_next
    rw [this]
    generalize seqS (ifS (andT (bT (opE ltO (vE 1) (blE lenD (kA (opE ixD (vE 0) (cE (.int 0))) (nA))))) (bT (opE geO (vE 2) (opE powD (cE (.int 10)) (cE (.int 18)))))) (retS (vE 2)) (nS)) d_tail = rest at hr ⊢
    simp only [fnR, startS, seqS, ifS, retS, asgS, exS, nS, subS, Res.toS, Res.bind, vE, cE, opE, unE, blE, kA, nA, callE, lift, andT, orT, nT, bT, List.getElem?_cons_zero, List.getElem?_cons_succ, List.set_cons_zero, List.set_cons_succ, List.map_cons, List.map_nil, List.length_cons, List.length_nil, List.replicate_succ, List.replicate_zero, List.cons_append, List.nil_append, Nat.reduceAdd, Nat.reduceSub, Nat.add_one_sub_one, if_true, if_false, reduceIte, Bool.false_eq_true, pen1 h, addD, put1 h, ← h1e, em, pen0 h1, lstE, en', Nat.zero_le]
    simp only [hr]
  · obtain ⟨cc, hcc⟩ := cell_of (hc := hc1) cs i hn
    obtain ⟨r, hr, h0⟩ := key cc
    refine ⟨r, hc1, ?_, h0, h1, hs⟩
    have hpos : 0 < (cs.length : Int) := by
      have := List.length_pos_iff.mpr hn
      omega
    have em2 : modD hc1 (.int i) (.int (cs.length : Int)) = some (.int (i % (cs.length : Int))) := mod_p hpos
    have en' : neO hc1 (.lst (cs.map D.int)) (.lst []) = some (.bl true) := by
      rw [neO_nil]
      cases cs with
      | nil => exact absurd rfl hn
      | cons _ _ => rfl
    have : d_next = seqS (asgS 1 (opE ixD (vE 0) (cE (.int 1)))) (seqS (subS (vE 0) (cE (.int 1)) (opE addD (vE 1) (cE (.int 1)))) (seqS (asgS 2 (opE addD (opE mulD (vE 1) (cE (.int 1087))) (cE (.int 73))))
      (seqS (ifS (bT (opE neO (opE ixD (vE 0) (cE (.int 0))) (lstE (nA)))) (asgS 2 (opE ixD (opE ixD (vE 0) (cE (.int 0))) (opE modD (blE intD (kA (vE 1) (nA))) (blE lenD (kA (opE ixD (vE 0) (cE (.int 0))) (nA)))))) (nS))
      (seqS (ifS (andT (bT (opE ltO (vE 1) (blE lenD (kA (opE ixD (vE 0) (cE (.int 0))) (nA))))) (bT (opE geO (vE 2) (opE powD (cE (.int 10)) (cE (.int 18)))))) (retS (vE 2)) (nS)) d_tail)))) := rfl
    unfold c_next
    rw [this]
    generalize seqS (ifS (andT (bT (opE ltO (vE 1) (blE lenD (kA (opE ixD (vE 0) (cE (.int 0))) (nA))))) (bT (opE geO (vE 2) (opE powD (cE (.int 10)) (cE (.int 18)))))) (retS (vE 2)) (nS)) d_tail = rest at hr ⊢
    simp only [fnR, startS, seqS, ifS, retS, asgS, exS, nS, subS, Res.toS, Res.bind, vE, cE, opE, unE, blE, kA, nA, callE, lift, andT, orT, nT, bT, List.getElem?_cons_zero, List.getElem?_cons_succ, List.set_cons_zero, List.set_cons_succ, List.map_cons, List.map_nil, List.length_cons, List.length_nil, List.replicate_succ, List.replicate_zero, List.cons_append, List.nil_append, Nat.reduceAdd, Nat.reduceSub, Nat.add_one_sub_one, if_true, if_false, reduceIte, Bool.false_eq_true, pen1 h, addD, put1 h, ← h1e, em, pen0 h1, lstE, en', Nat.zero_le, intD, el, em2, hcc]
    simp only [hr]
/-- the pen's number is at most B draws on -/
def Pen (p : Nat) (B : Int) (hc : Hc) : Prop := ∃ cs i v, PenAt hc p cs i v ∧ 0 ≤ i ∧ i ≤ B ∧ 0 ≤ v
theorem Pen.mono {p : Nat} {B B' : Int} {hc : Hc} (h : Pen p B hc) (k : B ≤ B') : Pen p B' hc := by
  obtain ⟨cs, i, v, h1, h2, h3, h4⟩ := h
  exact ⟨cs, i, v, h1, h2, by omega, h4⟩
theorem draw_spec {B : Int} {n : Int} (h : Pen p B hc) (hB : B < 2 ^ 61) (hn : 0 < n) (hn2 : n < 1073741824) : ∃ r hc', c_draw [.loc p, .int n] hc = .ok (.int r) hc' ∧ 0 ≤ r ∧ r < n ∧ Pen p (B + 1) hc' ∧ Same p hc hc' := by
  obtain ⟨cs, i, v, h, hi, hi2, hv⟩ := h
  have fin : ∀ (hc1 : Hc) (i1 v1 : Int), PenAt hc1 p cs i1 v1 → 0 ≤ i1 → i1 ≤ B + 1 → 0 ≤ v1 → Same p hc hc1 → ∃ r hc', (seqS (asgS 2 (opE modD (blE intD (kA (opE ixD (vE 0) (cE (.int 2))) (nA))) (vE 1)))
      (seqS (subS (vE 0) (cE (.int 2)) (opE fdivD (opE ixD (vE 0) (cE (.int 2))) (vE 1)))
      (retS (vE 2)))) [some (.loc p), some (.int n), none] hc1 = .rt (.int r) hc' ∧ 0 ≤ r ∧ r < n ∧ Pen p (B + 1) hc' ∧ Same p hc hc' := fun hc1 i1 v1 h1 hi1 hi12 hv1 hs => by
    have em : modD hc1 (.int v1) (.int n) = some (.int (v1 % n)) := mod_p hn
    have ed : fdivD hc1 (.int v1) (.int n) = some (.int (v1 / n)) := by simp only [fdivD, hn, hn2, decide_true, Bool.and_self, if_true]
    refine ⟨v1 % n, _, ?_, Int.emod_nonneg _ (by omega), Int.emod_lt_of_pos _ hn, ⟨cs, i1, v1 / n, pen_set (i' := i1) (v' := v1 / n) h1, hi1, hi12, Int.ediv_nonneg hv1 (by omega)⟩, hs.trans same_set⟩
    simp only [fnR, startS, seqS, ifS, retS, asgS, exS, nS, subS, Res.toS, Res.bind, vE, cE, opE, unE, blE, kA, nA, callE, lift, andT, orT, nT, bT, List.getElem?_cons_zero, List.getElem?_cons_succ, List.set_cons_zero, List.set_cons_succ, List.map_cons, List.map_nil, List.length_cons, List.length_nil, List.replicate_succ, List.replicate_zero, List.cons_append, List.nil_append, Nat.reduceAdd, Nat.reduceSub, Nat.add_one_sub_one, if_true, if_false, reduceIte, Bool.false_eq_true, pen2 h1, intD, em, ed, put2 h1]
  by_cases q : v < n
  · obtain ⟨r0, hc1, e1, r00, h1, s1⟩ := next_spec h hi (by omega)
    obtain ⟨r, hc', e2, f1, f2, f3, f4⟩ := fin _ (i + 1) r0 (pen_set (i' := i + 1) (v' := r0) h1) (by omega) (by omega) r00 (s1.trans same_set)
    refine ⟨r, hc', ?_, f1, f2, f3, f4⟩
    unfold c_draw d_draw
    generalize (seqS (asgS 2 (opE modD (blE intD (kA (opE ixD (vE 0) (cE (.int 2))) (nA))) (vE 1))) (seqS (subS (vE 0) (cE (.int 2)) (opE fdivD (opE ixD (vE 0) (cE (.int 2))) (vE 1))) (retS (vE 2)))) = rest at e2 ⊢
    simp only [fnR, startS, seqS, ifS, retS, asgS, exS, nS, subS, Res.toS, Res.bind, vE, cE, opE, unE, blE, kA, nA, callE, lift, andT, orT, nT, bT, List.getElem?_cons_zero, List.getElem?_cons_succ, List.set_cons_zero, List.set_cons_succ, List.map_cons, List.map_nil, List.length_cons, List.length_nil, List.replicate_succ, List.replicate_zero, List.cons_append, List.nil_append, Nat.reduceAdd, Nat.reduceSub, Nat.add_one_sub_one, if_true, if_false, reduceIte, Bool.false_eq_true, pen2 h, ltO, q, decide_true, e1, put2 h1]
    simp only [e2]
  · obtain ⟨r, hc', e2, f1, f2, f3, f4⟩ := fin hc i v h hi (by omega) hv (.refl _ _)
    refine ⟨r, hc', ?_, f1, f2, f3, f4⟩
    unfold c_draw d_draw
    generalize (seqS (asgS 2 (opE modD (blE intD (kA (opE ixD (vE 0) (cE (.int 2))) (nA))) (vE 1))) (seqS (subS (vE 0) (cE (.int 2)) (opE fdivD (opE ixD (vE 0) (cE (.int 2))) (vE 1))) (retS (vE 2)))) = rest at e2 ⊢
    simp only [fnR, startS, seqS, ifS, retS, asgS, exS, nS, subS, Res.toS, Res.bind, vE, cE, opE, unE, blE, kA, nA, callE, lift, andT, orT, nT, bT, List.getElem?_cons_zero, List.getElem?_cons_succ, List.set_cons_zero, List.set_cons_succ, List.map_cons, List.map_nil, List.length_cons, List.length_nil, List.replicate_succ, List.replicate_zero, List.cons_append, List.nil_append, Nat.reduceAdd, Nat.reduceSub, Nat.add_one_sub_one, if_true, if_false, reduceIte, Bool.false_eq_true, pen2 h, ltO, q, decide_false]
    simp only [e2]
end
end Bo

set_option Elab.async false
set_option linter.all false
set_option maxRecDepth 100000
set_option maxHeartbeats 4000000
set_option autoImplicit false
/-! Bo16: plain lemmas: draws that are left, comprehensions, texts and rows of texts. -/
namespace Bo
open PySem PySem.Spec PyProof.Rows L2

/-! ### n draws are left -/
def Bud (p n : Nat) (hc : Hc) : Prop := ∃ B : Int, Pen p B hc ∧ B + n ≤ 2 ^ 60
theorem Bud.mono {p n m : Nat} {hc : Hc} (h : Bud p n hc) (k : m ≤ n) : Bud p m hc := by
  obtain ⟨B, h1, h2⟩ := h
  exact ⟨B, h1, by omega⟩
theorem bud_draw {p n : Nat} {hc : Hc} {u : Int} (h : Bud p (n + 1) hc) (hu : 0 < u) (hu2 : u < 1073741824) : ∃ r hc', c_draw [.loc p, .int u] hc = .ok (.int r) hc' ∧ 0 ≤ r ∧ r < u ∧ Bud p n hc' ∧ Same p hc hc' := by
  obtain ⟨B, h1, h2⟩ := h
  obtain ⟨r, hc', e, a, b, c, d⟩ := draw_spec h1 (by omega) hu hu2
  exact ⟨r, hc', e, a, b, ⟨B + 1, c, by omega⟩, d⟩
/-- the same with the digit as a Nat -/
theorem bud_nat {p n : Nat} {hc : Hc} (u : Nat) (h : Bud p (n + 1) hc) (hu : 0 < u) (hu2 : u < 1073741824) : ∃ r hc', r < u ∧ c_draw [.loc p, .int (u : Int)] hc = .ok (.int (r : Nat)) hc' ∧ Bud p n hc' ∧ Same p hc hc' := by
  obtain ⟨r, hc', e, a, b, c, d⟩ := bud_draw (u := (u : Int)) h (by omega) (by omega)
  refine ⟨r.toNat, hc', by omega, ?_, c, d⟩
  rw [e]
  congr 2
  omega
theorem pen_made2 (ns : List Int) : ∃ o, c_pen [scr ns] hc0 = .ok (.loc 0) ⟨1, [(0, o)]⟩ ∧ Bud 0 1000000000 ⟨1, [(0, o)]⟩ := by
  have hs : (3 : Nat) ≤ sizeLine := by rw [sizeLine_eq]; decide
  obtain ⟨cs, hcs⟩ : ∃ cs : List Int, cutD (ns.map D.int) none (some 60) = cs.map D.int := by
    refine ⟨(ns.drop (HT.sIx (ns.map D.int).length 0 none)).take (HT.sIx (ns.map D.int).length (ns.map D.int).length (some 60) - HT.sIx (ns.map D.int).length 0 none), ?_⟩
    unfold cutD
    rw [List.map_take, List.map_drop]
  refine ⟨.lst [.lst (cs.map D.int), .int 0, .int 0], ?_, 0, ⟨cs, 0, 0, ?_, by omega, by omega, by omega⟩, by decide⟩
  show c_pen [scr ns] hc0 = .ok (.loc 0) (hc0.new (.lst [.lst (cs.map D.int), .int 0, .int 0]))
  · unfold c_pen d_pen scr
    simp only [fnR, startS, seqS, ifS, retS, asgS, exS, nS, subS, Res.toS, Res.bind, vE, cE, opE, unE, blE, kA, nA, callE, lift, andT, orT, nT, bT, List.getElem?_cons_zero, List.getElem?_cons_succ, List.set_cons_zero, List.set_cons_succ, List.map_cons, List.map_nil, List.length_cons, List.length_nil, List.replicate_succ, List.replicate_zero, List.cons_append, List.nil_append, Nat.reduceAdd, Nat.reduceSub, Nat.add_one_sub_one, if_true, if_false, reduceIte, Bool.false_eq_true, newE, slE, nO, sO, slD, Hc.lst?, Option.map_some, hcs, listD, hs]
    rfl
  · rfl
theorem pen_made (ns : List Int) : ∃ hc, c_pen [scr ns] hc0 = .ok (.loc 0) hc ∧ Bud 0 1000000000 hc := let ⟨_, e, b⟩ := pen_made2 ns; ⟨_, e, b⟩
/-! ### a comprehension whose items are drawn -/
theorem mapC_bud {ft : D → Sl → Option Sl} {fe : Sl → Hc → Res D} {sl : Sl} {P : D → Prop} {p k : Nat}
    (h : ∀ d, ∃ sl1, ft d sl = some sl1 ∧ ∀ n hc, Bud p (n + k) hc → ∃ y hc', fe sl1 hc = .ok y hc' ∧ P y ∧ Bud p n hc' ∧ Same p hc hc') :
    ∀ (ds : List D) (n : Nat) (hc : Hc), Bud p (n + k * ds.length) hc → ∃ ys hc', mapC ft yT fe sl ds hc = .ok ys hc' ∧ ys.length = ds.length ∧ (∀ y ∈ ys, P y) ∧ Bud p n hc' ∧ Same p hc hc'
  | [], n, hc, b => ⟨[], hc, rfl, rfl, nofun, b.mono (by simp), .refl _ _⟩
  | d :: ds, n, hc, b => by
    obtain ⟨sl1, e1, h1⟩ := h d
    obtain ⟨y, hc1, e2, py, b1, s1⟩ := h1 (n + k * ds.length) hc (b.mono (by rw [List.length_cons, Nat.mul_succ]; omega))
    obtain ⟨ys, hc2, e3, l3, p3, b3, s3⟩ := mapC_bud h ds n hc1 b1
    refine ⟨y :: ys, hc2, ?_, by simp [l3], fun z hz => ?_, b3, s1.trans s3⟩
    · simp only [mapC, e1, yT, Res.bind, e2, e3, if_true]
    · rcases List.mem_cons.mp hz with rfl | hz
      · exact py
      · exact p3 z hz
/-- .. whose items are plain -/
theorem mapC_pure {ft : D → Sl → Option Sl} {fe : Sl → Hc → Res D} {sl : Sl} {hc : Hc} {f : D → D} :
    ∀ (ds : List D) (_ : ∀ d ∈ ds, ∃ sl1, ft d sl = some sl1 ∧ fe sl1 hc = .ok (f d) hc), mapC ft yT fe sl ds hc = .ok (ds.map f) hc
  | [], _ => rfl
  | d :: ds, h => by
    obtain ⟨sl1, e1, e2⟩ := h d List.mem_cons_self
    have := mapC_pure (f := f) ds fun z hz => h z (List.mem_cons_of_mem _ hz)
    simp only [mapC, e1, yT, Res.bind, e2, this, if_true, List.map_cons]
/-! ### texts -/
theorem toPys_strs : ∀ xs : List Str, toPys (xs.map D.str) = some (xs.map PyData.str)
  | [] => rfl
  | x :: xs => by simp only [List.map_cons, toPys, toPy, toPys_strs xs, Option.bind_some, Option.map_some]
theorem lay_strs : ∀ {xs : List Str} (_ : ∀ x ∈ xs, PyData.strOk x = true), PyData.canLayAll0 (xs.map PyData.str) = true
  | [], _ => by simp only [List.map_nil, PyData.canLayAll0]
  | x :: xs, h => by
    have h1 := lay_strs fun y hy => h y (List.mem_cons_of_mem _ hy)
    simp only [List.map_cons, PyData.canLayAll0, PyData.canLay0, h1, h x List.mem_cons_self, Bool.and_self]
theorem depth_strs : ∀ xs : List Str, PyData.depthAll (xs.map PyData.str) = 0
  | [] => by simp [PyData.depthAll]
  | x :: xs => by
    rw [List.map_cons, PyData.depthAll, depth_strs xs]
    simp [PyData.depth]
theorem shaped_strs {xs : List Str} (h : ∀ x ∈ xs, PyData.strOk x = true) : SeqAt.shaped (.list (xs.map PyData.str)) = true ∧ SeqAt.shaped (.tuple (xs.map PyData.str)) = true := by
  constructor
  · unfold SeqAt.shaped
    rw [Bool.and_eq_true]
    exact ⟨by simp only [PyData.canLay0, lay_strs h], decide_eq_true (by rw [PyData.depth, depth_strs]; omega)⟩
  · unfold SeqAt.shaped
    rw [Bool.and_eq_true]
    exact ⟨by simp only [PyData.canLay0, lay_strs h], decide_eq_true (by rw [PyData.depth, depth_strs]; omega)⟩
theorem shaped_str {x : Str} (h : PyData.strOk x = true) : SeqAt.shaped (.str x) = true := by
  unfold SeqAt.shaped
  rw [Bool.and_eq_true]
  exact ⟨by simp only [PyData.canLay0, h], decide_eq_true (by rw [PyData.depth]; omega)⟩
theorem eqv_strs : ∀ xs ys : List Str, PyData.eqvAll (xs.map PyData.str) (ys.map PyData.str) = decide (xs = ys)
  | [], [] => by simp [PyData.eqvAll]
  | [], _ :: _ => by simp [PyData.eqvAll]
  | _ :: _, [] => by simp [PyData.eqvAll]
  | x :: xs, y :: ys => by
    have h := eqv_strs xs ys
    simp only [List.map_cons, PyData.eqvAll, PyData.eqv, h, List.cons.injEq]
    by_cases h1 : x = y <;> by_cases h2 : xs = ys <;> simp [h1, h2]
theorem eq_strs {hc : Hc} {xs ys : List Str} (h1 : ∀ x ∈ xs, PyData.strOk x = true) (h2 : ∀ x ∈ ys, PyData.strOk x = true) : eqO hc (.lst (xs.map D.str)) (.lst (ys.map D.str)) = some (.bl (decide (xs = ys))) := by
  have t : ∀ zs : List Str, toPy1 hc (.lst (zs.map D.str)) = some (.list (zs.map PyData.str)) := fun zs => by
    show toPy (.lst (zs.map D.str)) = _
    simp only [toPy, toPys_strs, Option.map_some]
  have e : eqD hc (.lst (xs.map D.str)) (.lst (ys.map D.str)) = some (decide (xs = ys)) := by
    show (match toPy1 hc (.lst (xs.map D.str)), toPy1 hc (.lst (ys.map D.str)) with
      | some p, some q => if SeqAt.shaped p && SeqAt.shaped q then some (PyData.eqv p q) else none
      | _, _ => none) = _
    rw [t, t]
    simp only [(shaped_strs h1).1, (shaped_strs h2).1, Bool.and_self, if_true, PyData.eqv, eqv_strs]
  unfold eqO
  rw [e]
  rfl
/-- repr -/
theorem fits_of {p : PyData} (h1 : p.showable = true) (h2 : p.leavesShort 50 = true) (h3 : p.weight ≤ 100000) (h4 : p.depth ≤ 64) : fitsR p = true := by
  have := PyData.shown_le 50 (by omega) p h2
  have hs : sizeLine = 16777216 := sizeLine_eq
  unfold fitsR
  rw [h1, Bool.true_and, Bool.and_eq_true]
  exact ⟨decide_eq_true (by omega), decide_eq_true h4⟩
/-- a short text of small signs -/
def Wd (x : Str) : Prop := x.length ≤ 40 ∧ ∀ c ∈ x.cps.toList, c < 128
theorem Wd.ok {x : Str} (h : Wd x) : PyData.strOk x = true := by
  unfold PyData.strOk
  rw [← Array.all_toList, List.all_eq_true]
  intro c hc
  have := h.2 c hc
  exact decide_eq_true (by omega)
theorem Wd.short {x : Str} (h : Wd x) : (PyData.str x).leavesShort 50 = true := by
  simp only [PyData.leavesShort, List.all_eq_true, decide_eq_true_eq]
  intro c hc
  have := h.2 c hc
  have : (128 : Nat) ≤ 16 ^ 8 := by decide
  omega
theorem Wd.weight {x : Str} (h : Wd x) : (PyData.str x).weight ≤ 40 := by
  have := h.1
  simp only [PyData.weight]
  exact this
theorem Wd.repr {x : Str} {hc : Hc} (h : Wd x) : ∃ y, reprD hc (.str x) = some (.str y) := by
  have e : toPyR hc (.str x) = some (.str x) := rfl
  have f : fitsR (.str x) = true := fits_of (by simp [PyData.showable]) h.short (by have := h.weight; omega) (by simp [PyData.depth])
  exact ⟨_, by unfold reprD; rw [e, Option.bind_some, if_pos f]⟩
theorem short_all : ∀ {xs : List Str} (_ : ∀ x ∈ xs, Wd x), PyData.leavesShortAll 50 (xs.map PyData.str) = true
  | [], _ => by simp [PyData.leavesShortAll]
  | x :: xs, h => by
    have h1 := short_all fun y hy => h y (List.mem_cons_of_mem _ hy)
    simp only [List.map_cons, PyData.leavesShortAll, h1, (h x List.mem_cons_self).short, Bool.and_self]
theorem weight_all : ∀ {xs : List Str} (_ : ∀ x ∈ xs, Wd x), PyData.weightAll (xs.map PyData.str) ≤ 41 * xs.length
  | [], _ => by simp [PyData.weightAll]
  | x :: xs, h => by
    have h1 := weight_all fun y hy => h y (List.mem_cons_of_mem _ hy)
    have h2 := (h x List.mem_cons_self).weight
    rw [List.map_cons, PyData.weightAll, List.length_cons]
    omega
theorem repr_lst {xs : List Str} {hc : Hc} (h : ∀ x ∈ xs, Wd x) (hl : xs.length ≤ 1000) : ∃ y, reprD hc (.lst (xs.map D.str)) = some (.str y) := by
  have e : toPyR hc (.lst (xs.map D.str)) = some (.list (xs.map PyData.str)) := by
    show toPy (.lst (xs.map D.str)) = _
    simp only [toPy, toPys_strs, Option.map_some]
  have f : fitsR (.list (xs.map PyData.str)) = true := fits_of (by simp only [PyData.showable, PyData.showableAll_strs]) (by simp only [PyData.leavesShort, short_all h]) (by
    have := weight_all h
    rw [PyData.weight]
    omega) (by rw [PyData.depth, depth_strs]; omega)
  exact ⟨_, by unfold reprD; rw [e, Option.bind_some, if_pos f]⟩
theorem repr_tup {xs : List Str} {hc : Hc} (h : ∀ x ∈ xs, Wd x) (hl : xs.length ≤ 1000) : ∃ y, reprD hc (.tup (xs.map D.str)) = some (.str y) := by
  have e : toPyR hc (.tup (xs.map D.str)) = some (.tuple (xs.map PyData.str)) := by
    show toPy (.tup (xs.map D.str)) = _
    simp only [toPy, toPys_strs, Option.map_some]
  have f : fitsR (.tuple (xs.map PyData.str)) = true := fits_of (by simp only [PyData.showable, PyData.showableAll_strs]) (by simp only [PyData.leavesShort, short_all h]) (by
    have := weight_all h
    rw [PyData.weight]
    omega) (by rw [PyData.depth, depth_strs]; omega)
  exact ⟨_, by unfold reprD; rw [e, Option.bind_some, if_pos f]⟩
/-! ### sorted(set(texts)) -/
theorem dKs_strs : ∀ xs : List Str, dKs (xs.map D.str) = some (xs.map Sum.inr)
  | [] => rfl
  | x :: xs => by simp only [List.map_cons, dKs, dK, dKs_strs xs, Option.bind_some, Option.map_some]
theorem addAll_mem : ∀ (r ks : List Key) (k : Key), k ∈ addAll ks r ↔ k ∈ ks ∨ k ∈ r
  | [], ks, k => by simp [addAll]
  | a :: r, ks, k => by
    rw [addAll, addAll_mem r, List.mem_cons]
    have : k ∈ addKey ks a ↔ k ∈ ks ∨ k = a := by
      unfold addKey
      split
      · rename_i h
        rw [hasKey_iff] at h
        exact ⟨.inl, fun q => q.elim id fun e => e ▸ h⟩
      · rw [List.mem_cons]
        exact ⟨fun q => q.elim .inr .inl, fun q => q.elim .inr .inl⟩
    rw [this]
    exact ⟨fun q => q.elim (fun q => q.elim .inl fun e => .inr (.inl e)) fun e => .inr (.inr e), fun q => q.elim (fun e => .inl (.inl e)) fun q => q.elim (fun e => .inl (.inr e)) .inr⟩
theorem addAll_nodup : ∀ (r ks : List Key), ks.Nodup → (addAll ks r).Nodup
  | [], ks, h => h
  | a :: r, ks, h => by
    rw [addAll]
    refine addAll_nodup r _ ?_
    unfold addKey
    split
    · exact h
    · rename_i q
      refine List.nodup_cons.mpr ⟨fun z => q (hasKey_iff.mpr z), h⟩
theorem perm_of_mem {α : Type} : ∀ {l m : List α}, l.Nodup → m.Nodup → (∀ a, a ∈ l ↔ a ∈ m) → l.Perm m := fun h1 h2 h => (List.perm_ext_iff_of_nodup h1 h2).mpr h
/-- ascending texts -/
def Asc : List Str → Bool
  | x :: y :: r => ltS x y && Asc (y :: r)
  | _ => true
theorem ltS_irrefl (x : Str) : ltS x x = false := by
  unfold ltS
  simp [List.lt_irrefl]
theorem ltS_trans {x y z : Str} (h1 : ltS x y = true) (h2 : ltS y z = true) : ltS x z = true := by
  unfold ltS at *
  rw [decide_eq_true_eq] at *
  exact List.lt_trans h1 h2
theorem asc_pw : ∀ {xs : List Str}, Asc xs = true ↔ xs.Pairwise fun a b => ltS a b = true
  | [] => ⟨fun _ => .nil, fun _ => rfl⟩
  | [x] => ⟨fun _ => List.pairwise_singleton _ _, fun _ => rfl⟩
  | x :: y :: r => by
    have ih := asc_pw (xs := y :: r)
    rw [Asc, Bool.and_eq_true, ih, List.pairwise_cons (a := x)]
    refine ⟨fun ⟨h1, h2⟩ => ⟨fun z hz => ?_, h2⟩, fun ⟨h1, h2⟩ => ⟨h1 y List.mem_cons_self, h2⟩⟩
    rcases List.mem_cons.mp hz with rfl | hz
    · exact h1
    · exact ltS_trans h1 ((List.pairwise_cons.mp h2).1 z hz)
theorem le_keys (x y : Str) : PySem.W.dataLe false kP (.inr x) (.inr y) = !ltS y x := by
  show (!PySem.W.dataLt (.str y) (.str x)) = _
  rw [PySem.W.dataLt_str]
  rfl
theorem set_sorted (xs : List Str) : ∃ ys : List Str, sortK (addAll [] (xs.map Sum.inr)) = ys.map Sum.inr ∧ (∀ y ∈ ys, y ∈ xs) ∧ decide (xs = ys) = Asc xs ∧ (addAll [] (xs.map Sum.inr)).length ≤ xs.length := by
  have mem : ∀ k, k ∈ sortK (addAll [] (xs.map Sum.inr)) ↔ k ∈ xs.map Sum.inr := fun k => by
    unfold sortK
    rw [(List.mergeSort_perm _ _).mem_iff, addAll_mem]
    simp
  have nd : (sortK (addAll [] (xs.map Sum.inr))).Nodup := by
    unfold sortK
    exact (List.mergeSort_perm _ _).nodup_iff.mpr (addAll_nodup _ _ List.nodup_nil)
  have so := sortK_sorted (addAll [] (xs.map Sum.inr))
  obtain ⟨ys, hy⟩ : ∃ ys : List Str, sortK (addAll [] (xs.map Sum.inr)) = ys.map Sum.inr := by
    have : ∀ l : List Key, (∀ k ∈ l, k ∈ xs.map Sum.inr) → ∃ ys : List Str, l = ys.map Sum.inr := fun l => by
      induction l with
      | nil => exact fun _ => ⟨[], rfl⟩
      | cons k l ih =>
        intro h
        obtain ⟨ys, e⟩ := ih fun z hz => h z (List.mem_cons_of_mem _ hz)
        obtain ⟨x, _, ex⟩ := List.mem_map.mp (h k List.mem_cons_self)
        exact ⟨x :: ys, by rw [e, List.map_cons, ex]⟩
    exact this _ fun k hk => (mem k).mp hk
  rw [hy] at mem nd so
  have ym : ∀ y, y ∈ ys ↔ y ∈ xs := fun y => by
    have := mem (.inr y)
    simpa using this
  have ynd : ys.Nodup := List.nodup_iff_pairwise_ne.mpr ((List.pairwise_map.mp (List.nodup_iff_pairwise_ne.mp nd)).imp fun {a b} h e => h (by rw [e]))
  have yso : ys.Pairwise fun a b => ltS b a = false := by
    have := List.pairwise_map.mp so
    refine this.imp fun {a b} h => ?_
    rw [le_keys] at h
    simpa using h
  have yasc : ys.Pairwise fun a b => ltS a b = true := by
    have := yso.and (List.nodup_iff_pairwise_ne.mp ynd)
    refine this.imp fun {a b} ⟨h1, h2⟩ => ?_
    cases h : ltS a b with
    | true => rfl
    | false =>
      exfalso
      apply h2
      unfold ltS at h h1
      rw [decide_eq_false_iff_not] at h h1
      have : a.cps.toList = b.cps.toList := List.le_antisymm (List.not_lt.mp h1) (List.not_lt.mp h)
      exact PySem.W.str_of_cps this
  refine ⟨ys, hy, fun y h => (ym y).mp h, ?_, ?_⟩
  · cases h : Asc xs with
    | true =>
      apply decide_eq_true
      have pw := asc_pw.mp h
      have xnd : xs.Nodup := List.nodup_iff_pairwise_ne.mpr (pw.imp fun {a b} q e => by subst e; rw [ltS_irrefl] at q; cases q)
      refine List.Perm.eq_of_pairwise (le := fun a b => ltS a b = true) (fun a b _ _ h1 h2 => ?_) pw yasc (perm_of_mem xnd ynd fun a => (ym a).symm)
      have := ltS_trans h1 h2
      rw [ltS_irrefl] at this
      cases this
    | false =>
      apply decide_eq_false
      intro e
      subst e
      rw [asc_pw.mpr yasc] at h
      cases h
  · have : ∀ (r ks : List Key), (addAll ks r).length ≤ ks.length + r.length := fun r => by
      induction r with
      | nil => exact fun ks => Nat.le_refl _
      | cons a r ih =>
        intro ks
        have h1 := ih (addKey ks a)
        have h2 := addKey_len ks a
        rw [addAll, List.length_cons]
        omega
    have := this (xs.map Sum.inr) []
    simpa using this
/-- list(t) == sorted(set(t)) of texts -/
theorem sortset_strs {hc : Hc} {xs : List Str} (hl : xs.length ≤ 100) : ∃ ys : List Str, sortSetD hc [.tup (xs.map D.str)] = some (.lst (ys.map D.str)) ∧ (∀ y ∈ ys, y ∈ xs) ∧ decide (xs = ys) = Asc xs := by
  obtain ⟨ys, h1, h2, h3, h4⟩ := set_sorted xs
  refine ⟨ys, ?_, h2, h3⟩
  have hb : (xs.map D.str).length + 2 < scanBound := by
    rw [List.length_map]
    have : 1000 < scanBound := by decide
    omega
  have hsz : (addAll [] (xs.map Sum.inr)).length ≤ sizeLine := by
    rw [sizeLine_eq]; omega
  have hsame : sameK (addAll [] (xs.map Sum.inr)) = true := by
    unfold sameK
    rw [Bool.or_eq_true]
    right
    rw [List.all_eq_true]
    intro k hk
    rw [addAll_mem] at hk
    rcases hk with hk | hk
    · cases hk
    · obtain ⟨x, _, rfl⟩ := List.mem_map.mp hk
      rfl
  have e : (sortK (addAll [] (xs.map Sum.inr))).map kD = ys.map D.str := by
    rw [h1, List.map_map]
    rfl
  simp only [sortSetD, setK, seqOf, Option.bind_some, hb, if_true, dKs_strs, Option.map_some, hsame, hsz, decide_true, Bool.and_self, e]
end Bo

set_option Elab.async false
set_option linter.all false
set_option maxRecDepth 100000
set_option maxHeartbeats 4000000
set_option autoImplicit false
/-! Bo17: f-strings, str(), min, int(bool), text * int, append and pop of numbered lists, list(..) as a numbered list. -/
namespace Bo
open PySem PySem.Spec PyProof.Rows L2

/-! ### f-strings -/
def fmtD (_ : Hc) : D → Option D
  | .str y => if y.length ≤ sizeLine then some (.str y) else none
  | .int i => if i.natAbs.log2 < 1920 then some (.str (toString i)) else none
  | _ => none
def jsR : List (Sl → Hc → Res D) → Str → Sl → Hc → Res D
  | [], acc, _, hc => .ok (.str acc) hc
  | f :: fs, acc, sl, hc => (f sl hc).bind fun d hc1 => match d with
    | .str y => if (acc ++ y).length ≤ sizeLine then jsR fs (acc ++ y) sl hc1 else .bad
    | _ => .bad
def fsE (fs : List (Sl → Hc → Res D)) : Sl → Hc → Res D := fun sl hc => jsR fs Str.empty sl hc
section
variable {X : Cx} {g : Gx} {W : WX} {k : Nat} {e : Expr} {f : Sl → Hc → Res D} {pos : Pos}
theorem e_fmt (he : PE X e (tI g W f)) : PE X (.FormattedValue e (-1) none pos) (tI g W (unE fmtD f)) := by
  refine pe_imp (pe_fmt he) fun σ H Q ⟨z, sl, hc, hs, st, h⟩ => ?_
  refine tI.mono (OutE.thenE (f := f) hs st h) fun v H1 ⟨z1, d1, hc1, x1, hs1, st1, r1, o1⟩ => ?_
  obtain ⟨rr, er, hq⟩ := o1.lift
  cases r1 with
  | str y =>
    simp only [fmtD] at er
    split at er
    · rename_i hl
      cases er
      exact .inl ⟨y, rfl, hl, plain st1 hq (.str _)⟩
    · cases er
  | int i =>
    simp only [fmtD] at er
    split at er
    · rename_i hl
      cases er
      exact .inr ⟨i, rfl, hl, plain st1 hq (.str _)⟩
    · cases er
  | _ => cases er
theorem j_nil : PJ X [] (([] : List (Sl → Hc → Res D)).map (tI g W)) := .nil
theorem j_cons {es : List Expr} {fs : List (Sl → Hc → Res D)} (he : PE X e (tI g W f)) (r : PJ X es (fs.map (tI g W))) : PJ X (e :: es) ((f :: fs).map (tI g W)) := .cons he r
theorem js_read {σ : L2.St} {Q : VK} : ∀ {fs : List (Sl → Hc → Res D)} {acc : Str} {z : Fz} {sl : Sl} {hc : Hc} {H : Hp}, Sv g z sl σ → StR g z H hc → OutE g W z H σ (jsR fs acc sl hc) Q → tJs (fs.map (tI g W)) acc σ H fun out H1 => Q (.str out) H1
  | [], acc, z, sl, hc, H, hs, st, h => h z H _ (.refl z H) st (.str acc)
  | f :: fs, acc, z, sl, hc, H, hs, st, h => by
    refine tI.mono (OutE.thenE (f := f) hs st h) fun v H1 ⟨z1, d1, hc1, x1, hs1, st1, r1, o1⟩ => ?_
    cases r1 with
    | str y =>
      by_cases hl : (acc ++ y).length ≤ sizeLine
      · simp only [if_pos hl] at o1
        exact ⟨y, rfl, hl, js_read hs1 st1 o1⟩
      · simp only [if_neg hl] at o1
        exact o1.elim
    | _ => exact o1.elim
theorem e_fs {v1 v2 : Expr} {rest : List Expr} {fs : List (Sl → Hc → Res D)} (h : PJ X (v1 :: v2 :: rest) (fs.map (tI g W))) : PE X (.JoinedStr (v1 :: v2 :: rest) pos) (tI g W (fsE fs)) :=
  pe_imp (pe_joined h) fun σ H Q ⟨z, sl, hc, hs, st, h⟩ => js_read hs st h
theorem e_fs1 (he : PE X e (tI g W f)) : PE X (.JoinedStr [e] pos) (tI g W f) := pe_joined1 he
end
/-! ### str, min, int of a bool -/
def strD (_ : Hc) : List D → Option D
  | [.int i] => if i.natAbs.log2 < 1920 then some (.str (toString i)) else none
  | [.str x] => some (.str x)
  | _ => none
def minD (_ : Hc) : List D → Option D
  | [.int i, .int j] => some (.int (if j < i then j else i))
  | _ => none
def intB (_ : Hc) : List D → Option D
  | [.int i] => some (.int i)
  | [.bl b] => some (.int (if b then 1 else 0))
  | _ => none
section
variable {X : Cx} {g : Gx} {W : WX} {k : Nat}
theorem b_min (c : Ct X g W k) : CallR X (.builtin "min") (rA g minD) := by
  intro pins s σ H xs us Q I r ⟨z, hc, ds, rr, st, rd, er, q⟩
  cases rd with
  | nil => cases er
  | cons h t => cases t with
    | nil => cases h <;> cases er
    | cons h2 t2 => cases t2 with
      | cons _ _ => cases h <;> cases h2 <;> cases er
      | nil => cases h with
        | int i => cases h2 with
          | int j => cases er; exact call_min2 c.calm pins s σ H _ us Q I r ⟨i, j, rfl, plain st q (.int _)⟩
          | _ => cases er
        | _ => cases er
theorem b_intB : CallR X (.type "int") (rA g intB) := by
  intro pins s σ H xs us Q I r ⟨z, hc, ds, rr, st, rd, er, q⟩
  cases rd with
  | nil => cases er
  | cons h t => cases t with
    | cons _ _ => cases h <;> cases er
    | nil => cases h with
      | int i => cases er; exact call_int1 pins s σ H _ us Q I r (.inl ⟨i, rfl, plain st q (.int _)⟩)
      | bl i => cases er; exact call_int1 pins s σ H _ us Q I r (.inr ⟨i, rfl, plain st q (.int _)⟩)
      | _ => cases er
end
/-! ### methods that change a numbered list -/
def rMW (g : Gx) (op : Hc → D → List D → Option (D × Hc)) : V → List V → Hp → VK → Prop := fun x xs H Q => ∃ z hc d ds r hc', StR g z H hc ∧ RelD g z d x ∧ RelDs g z ds xs ∧ op hc d ds = some (r, hc') ∧ ∀ z' H' v, Ext z H z' H' → StR g z' H' hc' → RelD g z' r v → Q v H'
def isLoc (hc : Hc) : D → Bool
  | .loc n => (match hc.get n with
    | some (.lst _) => true
    | _ => false)
  | _ => false
def mtE (op : Hc → D → List D → Option (D × Hc)) (fo : Sl → Hc → Res D) (fs : Sl → Hc → Res (List D)) : Sl → Hc → Res D := fun sl hc => (fo sl hc).bind fun d hc1 => if isLoc hc1 d then (fs sl hc1).bind fun ds hc2 => match op hc2 d ds with
  | some (r, hc3) => .ok r hc3
  | none => .bad
  else .bad
def appD (hc : Hc) (d : D) (as : List D) : Option (D × Hc) := match d, as with
  | .loc n, [v] => (match hc.get n with
    | some (.lst ds) => if ds.length < sizeLine then some (.non, hc.set n (.lst (ds ++ [v]))) else none
    | _ => none)
  | _, _ => none
def popD (hc : Hc) (d : D) (as : List D) : Option (D × Hc) := match d, as with
  | .loc n, [.int i] => (match hc.get n with
    | some (.lst ds) => if decide (-(2 ^ 63) ≤ i) && decide (i < 2 ^ 63) then (seqIndex? i ds.length).bind fun k => (ds[k]?).map fun y => (y, hc.set n (.lst (ds.eraseIdx k))) else none
    | _ => none)
  | _, _ => none
theorem RelDs.eraseIdx {g : Gx} {z : Fz} : ∀ {ds : List D} {xs : List V} (i : Nat), RelDs g z ds xs → RelDs g z (ds.eraseIdx i) (xs.eraseIdx i)
  | _, _, _, .nil => .nil
  | _, _, 0, .cons _ t => t
  | _, _, i + 1, .cons r t => .cons r (RelDs.eraseIdx i t)
section
variable {X : Cx} {g : Gx} {W : WX} {k : Nat}
theorem m_app : MtR X "list.append" (rMW g appD) := by
  intro pins s σ H x xs v us Q I rx rs ⟨z, hc, d, ds, r, hc', st, rd, rds, e, q⟩
  cases rd with
  | @loc n a hr =>
    cases rds with
    | nil => cases e
    | cons h t => cases t with
      | cons _ _ => cases e
      | nil =>
        unfold appD at e
        cases hg : hc.get n with
        | none => simp only [hg] at e; cases e
        | some o =>
          cases o with
          | ins c fs => simp only [hg] at e; cases e
          | lst es =>
            simp only [hg] at e
            split at e
            · rename_i hl
              cases e
              obtain ⟨b, ys, eb, hr2, hH, ry⟩ := st.at hg (.loc hr)
              cases eb
              obtain ⟨xx, ss⟩ := st.write (o' := .lst (es ++ [_])) (u := .lst (ys ++ [_])) hg hr ⟨_, upd_same, ry.append (.cons h .nil)⟩
              exact mt_append pins s σ H _ _ v us Q I rx rs ⟨_, ys, _, rfl, rfl, hH, by rw [← ry.length]; exact hl, q _ _ _ xx ss .non⟩
            · cases e
  | _ => cases e
theorem m_pop : MtR X "list.pop" (rMW g popD) := by
  intro pins s σ H x xs v us Q I rx rs ⟨z, hc, d, ds, r, hc', st, rd, rds, e, q⟩
  cases rd with
  | @loc n a hr =>
    cases rds with
    | nil => cases e
    | cons h t => cases t with
      | cons _ _ => cases h <;> cases e
      | nil => cases h with
        | int i =>
          unfold popD at e
          cases hg : hc.get n with
          | none => simp only [hg] at e; cases e
          | some o =>
            cases o with
            | ins c fs => simp only [hg] at e; cases e
            | lst es =>
              simp only [hg] at e
              split at e
              · rename_i hl
                rw [Bool.and_eq_true, decide_eq_true_eq, decide_eq_true_eq] at hl
                obtain ⟨kx, e1, e2⟩ := Option.bind_eq_some_iff.mp e
                obtain ⟨y, e3, e4⟩ := Option.map_eq_some_iff.mp e2
                cases e4
                obtain ⟨b, ys, eb, hr2, hH, ry⟩ := st.at hg (.loc hr)
                cases eb
                obtain ⟨w, hw, rw'⟩ := ry.get e3
                obtain ⟨xx, ss⟩ := st.write (o' := .lst (es.eraseIdx kx)) (u := .lst (ys.eraseIdx kx)) hg hr ⟨_, upd_same, ry.eraseIdx kx⟩
                exact mt_popAt pins s σ H _ _ v us Q I rx rs ⟨_, ys, i, kx, w, rfl, rfl, hH, hl.1, hl.2, by rw [← ry.length]; exact e1, hw, q _ _ _ xx ss rw'⟩
              · cases e
        | _ => cases e
  | _ => cases e
variable {o e : Expr} {es : List Expr} {name : Str} {id : String} {op : Hc → D → List D → Option (D × Hc)} {fo : Sl → Hc → Res D} {fs : Sl → Hc → Res (List D)} {apos cpos : Pos}
theorem e_mt (slot : Slot "list" name id) (hty : typeOf (.builtin id) = pure (.type "method_descriptor")) (c : Ct X g W k) (hm : MtR X id (rMW g op)) (ho : PE X o (tI g W fo)) (ha : PA X (e :: es) (aI g W fs))
    (hbase : attributeBase o name X.env (eval o X.env) = eval o X.env := by rfl)
    (hfew : ((backTo cpos (starEach (e :: es) X.env)).all (fun x => !x.1) && (backToKw cpos (keywordEach [] X.env)).all (fun x => x.1.isSome)
      && decide ((e :: es).length + ([] : List Keyword).length + (if ([] : List Keyword).isEmpty then 0 else 1) < 30)) = true := by rfl)
    (hline : (apos.endLine == cpos.line) = true := by rfl) (hs : starEach (e :: es) X.env = (false, eval e X.env) :: starEach es X.env := by rfl) (hplain : (backTo cpos (starEach es X.env)).any (·.1) = false := by rfl) :
    PE X (.Call (.Attribute o name apos) (e :: es) [] cpos) (tI g W (mtE op fo fs)) := by
  refine pe_imp (pe_bm F.plainAttrs_list slot hty hm ho ha hbase hfew hline hs hplain) fun σ H Q ⟨z, sl, hc, hs, st, h⟩ => ?_
  refine tI.mono (OutE.thenE (f := fo) hs st h) fun v H1 ⟨z1, d1, hc1, x1, hs1, st1, r1, o1⟩ => ?_
  cases q : isLoc hc1 d1 with
  | false => simp only [q] at o1; exact o1.elim
  | true =>
    simp only [q, if_true] at o1
    refine ⟨?_, aI.mono (OutE.thenA (f := fs) hs1 st1 o1) fun vs H2 ⟨z2, ds, hc2, x2, hs2, st2, r2, o2⟩ => ?_⟩
    · cases r1 with
      | @loc n a hr =>
        unfold isLoc at q
        cases hg : hc1.get n with
        | none => simp only [hg] at q; cases q
        | some o =>
          cases o with
          | ins c fs => simp only [hg] at q; cases q
          | lst es =>
            obtain ⟨b, ys, eb, hr2, hH, ry⟩ := st1.at hg (.loc hr)
            cases eb
            exact .inl ⟨rfl, ys, SqL.of hH⟩
      | _ => cases q
    · cases e2 : op hc2 d1 ds with
      | none => rw [e2] at o2; exact o2.elim
      | some p =>
        obtain ⟨r, hc3⟩ := p
        rw [e2] at o2
        exact ⟨z2, hc2, d1, ds, r, hc3, st2, r1.mono x2.le, r2, e2, o2⟩
theorem e_app (c : Ct X g W k) (ho : PE X o (tI g W fo)) (ha : PA X [e] (aI g W fs))
    (hbase : attributeBase o "append" X.env (eval o X.env) = eval o X.env := by rfl)
    (hline : (apos.endLine == cpos.line) = true := by rfl) (hs : starEach [e] X.env = [(false, eval e X.env)] := by rfl) :
    PE X (.Call (.Attribute o "append" apos) [e] [] cpos) (tI g W (mtE appD fo fs)) :=
  e_mt F.slot_list_append F.type_list_append c m_app ho ha hbase (by rw [hs]; rfl) hline hs rfl
theorem e_pop (c : Ct X g W k) (ho : PE X o (tI g W fo)) (ha : PA X [e] (aI g W fs))
    (hbase : attributeBase o "pop" X.env (eval o X.env) = eval o X.env := by rfl)
    (hline : (apos.endLine == cpos.line) = true := by rfl) (hs : starEach [e] X.env = [(false, eval e X.env)] := by rfl) :
    PE X (.Call (.Attribute o "pop" apos) [e] [] cpos) (tI g W (mtE popD fo fs)) :=
  e_mt F.slot_list_pop F.type_list_pop c m_pop ho ha hbase (by rw [hs]; rfl) hline hs rfl
end
end Bo

set_option Elab.async false
set_option linter.all false
set_option maxRecDepth 100000
set_option maxHeartbeats 4000000
set_option autoImplicit false
/-! Bo18: match statements: values, names, sequences, alternatives of values, guards. -/
namespace Bo
open PySem PySem.Spec PyProof.Rows L2

abbrev Bs := List (Nat × D)
abbrev PMt := Hc → D → Option (Option Bs)
/-- what is asked of a name that a pattern binds -/
structure StOk (X : Cx) (i : Nat) (x : Str) : Prop where
  hi : X.N[i]? = some x
  hx : Loc X.env.scope x
  hf : X.fn x = true ∨ X.env.scope.names.lookup x = some .local
inductive BRel (X : Cx) (g : Gx) (z : Fz) : Bs → List (Str × Value) → Prop
  | nil : BRel X g z [] []
  | cons {i : Nat} {x : Str} {d : D} {v : V} {u : Value} {bs : Bs} {us : List (Str × Value)} : StOk X i x → RelD g z d v → RelV v u → BRel X g z bs us → BRel X g z ((i, d) :: bs) ((x, u) :: us)
theorem BRel.mono {X : Cx} {g : Gx} {z z' : Fz} (l : FLe z z') : ∀ {bs : Bs} {us : List (Str × Value)}, BRel X g z bs us → BRel X g z' bs us
  | _, _, .nil => .nil
  | _, _, .cons a b c t => .cons a (b.mono l) c (BRel.mono l t)
theorem BRel.append {X : Cx} {g : Gx} {z : Fz} : ∀ {bs cs : Bs} {us ws : List (Str × Value)}, BRel X g z bs us → BRel X g z cs ws → BRel X g z (bs ++ cs) (us ++ ws)
  | _, _, _, _, .nil, h => h
  | _, _, _, _, .cons a b c t, h => .cons a b c (BRel.append t h)
def ORel (X : Cx) (g : Gx) (z : Fz) : Option Bs → Option (List (Str × Value)) → Prop
  | none, none => True
  | some bs, some us => BRel X g z bs us
  | _, _ => False
structure PatR (X : Cx) (g : Gx) (p : Pattern) (f : PMt) : Prop where
  run : ∀ (pins : List (Addr × Obj)) (s : Shared) (σ : L2.St) (H : Hp) (z : Fz) (hc : Hc) (d : D) (v : V) (u : Value) (r : Option Bs) (Q : Option (List (Str × Value)) → Shared → Prop), Inv X pins σ H s → StR g z H hc → RelD g z d v → RelV v u → f hc d = some r →
    (∀ s' r' z' H', Inv X pins σ H' s' → Ext z H z' H' → StR g z' H' hc → ORel X g z' r r' → Q r' s') → wpAny (model X.prog X.w) X.A (matchPattern p X.env u) Q X.xe s
structure PatE (X : Cx) (g : Gx) (ps : List Pattern) (f : Hc → List D → Option (Option Bs)) : Prop where
  run : ∀ (pins : List (Addr × Obj)) (s : Shared) (σ : L2.St) (H : Hp) (z : Fz) (hc : Hc) (ds : List D) (vs : List V) (us : List Value) (r : Option Bs) (Q : Option (List (Str × Value)) → Shared → Prop), Inv X pins σ H s → StR g z H hc → RelDs g z ds vs → Vals vs us → f hc ds = some r →
    (∀ s' r' z' H', Inv X pins σ H' s' → Ext z H z' H' → StR g z' H' hc → ORel X g z' r r' → Q r' s') → wpAny (model X.prog X.w) X.A (matchEach ps X.env us) Q X.xe s
structure PatF (X : Cx) (g : Gx) (ps : List Pattern) (f : PMt) : Prop where
  run : ∀ (pins : List (Addr × Obj)) (s : Shared) (σ : L2.St) (H : Hp) (z : Fz) (hc : Hc) (d : D) (v : V) (u : Value) (r : Option Bs) (Q : Option (List (Str × Value)) → Shared → Prop), Inv X pins σ H s → StR g z H hc → RelD g z d v → RelV v u → f hc d = some r →
    (∀ s' r' z' H', Inv X pins σ H' s' → Ext z H z' H' → StR g z' H' hc → ORel X g z' r r' → Q r' s') → wpAny (model X.prog X.w) X.A (matchFirst ps X.env u) Q X.xe s
def valP (x : Str) : PMt := fun hc d => (eqD hc d (.str x)).map fun b => if b then some [] else none
def capP (i : Nat) : PMt := fun _ d => some (some [(i, d)])
def wildP : PMt := fun _ _ => some (some [])
def nilP : Hc → List D → Option (Option Bs)
  | _, [] => some (some [])
  | _, _ => none
def consP (f : PMt) (k : Hc → List D → Option (Option Bs)) : Hc → List D → Option (Option Bs)
  | hc, d :: ds => match f hc d with
    | none => none
    | some none => some none
    | some (some bs) => (k hc ds).map fun o => o.map (bs ++ ·)
  | _, [] => none
def seqP (n : Nat) (k : Hc → List D → Option (Option Bs)) : PMt := fun hc d => match d with
  | .tup ds => if ds.length = n then k hc ds else some none
  | .str _ | .int _ | .bl _ | .non | .dct _ _ => some none
  | d => (hc.lst? d).bind fun ds => if ds.length = n then k hc ds else some none
def noP : PMt := fun _ _ => some none
def orP (f k : PMt) : PMt := fun hc d => match f hc d with
  | none => none
  | some (some bs) => some (some bs)
  | some none => k hc d
section
variable {X : Cx} {g : Gx} {W : WX} {kk : Nat}
theorem m_val (c : Ct X g W kk) {x : Str} {n : Nat} {p pos : Pos} : PatR X g (.MatchValue (.Constant (.str x) n p) pos) (valP x) := by
  refine ⟨fun pins s σ H z hc d v u r Q I st rd rv e q => ?_⟩
  refine wpAny_matchPattern_Value (thn (pe_str.run pins s σ H (fun y H1 => y = .str x ∧ H1 = H) I ⟨rfl, rfl⟩) fun w s1 ⟨y, H1, I1, ry, ey, eH⟩ => ?_)
  subst ey eH
  obtain ⟨b, e1, e2⟩ := Option.map_eq_some_iff.mp e
  refine thn (o_eq c pins s1 σ H1 v (.str x) u w (fun y H2 => y = .bl b ∧ ∃ z', Ext z H1 z' H2 ∧ StR g z' H2 hc) I1 rv ry ⟨z, hc, d, .str x, .bl b, st, rd, .str x, by unfold eqO; rw [e1]; rfl, fun z' H' y xx ss ry => by cases ry; exact ⟨rfl, z', xx, ss⟩⟩) fun w2 s2 ⟨y, H2, I2, ry2, ey, z', xx, ss⟩ => ?_
  subst ey
  cases ry2
  refine wpAny_truthy_bool ?_
  cases b with
  | true =>
    subst e2
    exact q _ _ _ _ I2 xx ss .nil
  | false =>
    subst e2
    exact q _ _ _ _ I2 xx ss trivial
theorem m_cap (i : Nat) {x : Str} {pos : Pos} (h : StOk X i x) : PatR X g (.MatchAs none (some x) pos) (capP i) :=
  ⟨fun pins s σ H z hc d v u r Q I st rd rv e q => by
    cases e
    exact wpAny_matchPattern_Capture (q _ _ _ _ I (.refl _ _) st (.cons h rd rv .nil))⟩
theorem m_wild {pos : Pos} : PatR X g (.MatchAs none none pos) wildP :=
  ⟨fun pins s σ H z hc d v u r Q I st rd rv e q => by
    cases e
    exact wpAny_matchPattern_Capture (q _ _ _ _ I (.refl _ _) st .nil)⟩
theorem m_nil : PatE X g [] nilP :=
  ⟨fun pins s σ H z hc ds vs us r Q I st rd rv e q => by
    cases rd with
    | nil => cases e; exact wpAny_matchEach_nil (q _ _ _ _ I (.refl _ _) st .nil)
    | cons _ _ => cases e⟩
theorem m_cons {p : Pattern} {ps : List Pattern} {f : PMt} {k : Hc → List D → Option (Option Bs)} (h : PatR X g p f) (t : PatE X g ps k) (hp : p.isStar = false := by rfl) : PatE X g (p :: ps) (consP f k) := by
  refine ⟨fun pins s σ H z hc ds vs us r Q I st rd rv e q => ?_⟩
  cases rd with
  | nil => cases e
  | @cons d ds v vs rd rds =>
    cases rv with
    | @cons _ u _ us rv rvs =>
      simp only [consP] at e
      cases e1 : f hc d with
      | none => rw [e1] at e; cases e
      | some o =>
        rw [e1] at e
        refine wpAny_matchEach_cons (h.run pins s σ H z hc d v u o _ I st rd rv e1 fun s1 r1 z1 H1 I1 x1 st1 o1 => ?_) hp
        cases o with
        | none =>
          cases e
          cases r1 with
          | none => exact q _ _ _ _ I1 x1 st1 trivial
          | some us => exact o1.elim
        | some bs =>
          cases r1 with
          | none => exact o1.elim
          | some ws =>
            obtain ⟨o2, e2, rfl⟩ := Option.map_eq_some_iff.mp e
            refine t.run pins s1 σ H1 z1 hc ds vs us o2 _ I1 st1 (rds.mono x1.le) rvs e2 fun s2 r2 z2 H2 I2 x2 st2 oo => ?_
            cases o2 with
            | none => cases r2 with
              | none => exact q _ _ _ _ I2 (x1.trans x2) st2 trivial
              | some _ => exact oo.elim
            | some cs => cases r2 with
              | none => exact oo.elim
              | some ys => exact q _ _ _ _ I2 (x1.trans x2) st2 ((BRel.mono x2.le o1).append oo)
theorem m_fnil : PatF X g [] noP := ⟨fun pins s σ H z hc d v u r Q I st rd rv e q => by
  cases e
  exact wpAny_matchFirst_nil (q _ _ _ _ I (.refl _ _) st trivial)⟩
theorem m_fcons {p : Pattern} {ps : List Pattern} {f k : PMt} (h : PatR X g p f) (t : PatF X g ps k) : PatF X g (p :: ps) (orP f k) := by
  refine ⟨fun pins s σ H z hc d v u r Q I st rd rv e q => ?_⟩
  simp only [orP] at e
  cases e1 : f hc d with
  | none => rw [e1] at e; cases e
  | some o =>
    rw [e1] at e
    refine wpAny_matchFirst_cons (h.run pins s σ H z hc d v u o _ I st rd rv e1 fun s1 r1 z1 H1 I1 x1 st1 o1 => ?_)
    cases o with
    | some bs =>
      cases e
      cases r1 with
      | none => exact o1.elim
      | some us => exact q _ _ _ _ I1 x1 st1 o1
    | none =>
      cases r1 with
      | some us => exact o1.elim
      | none => exact t.run pins s1 σ H1 z1 hc d v u r Q I1 st1 (rd.mono x1.le) rv e fun s2 r2 z2 H2 I2 x2 st2 oo => q _ _ _ _ I2 (x1.trans x2) st2 oo
/-- alternatives that bind nothing -/
def altP (f : PMt) : PMt := fun hc d => (f hc d).map fun o => o.map fun _ => []
theorem m_or {ps : List Pattern} {f : PMt} {pos : Pos} (h : PatF X g ps f) (hn : namesOfAll (ps.take 1) = [] := by rfl) : PatR X g (.MatchOr ps pos) (altP f) := by
  refine ⟨fun pins s σ H z hc d v u r Q I st rd rv e q => ?_⟩
  obtain ⟨o, e1, rfl⟩ := Option.map_eq_some_iff.mp e
  refine wpAny_matchPattern_Or (h.run pins s σ H z hc d v u o _ I st rd rv e1 fun s1 r1 z1 H1 I1 x1 st1 o1 => ?_)
  cases o with
  | none => cases r1 with
    | none => exact q _ _ _ _ I1 x1 st1 trivial
    | some _ => exact o1.elim
  | some bs => cases r1 with
    | none => exact o1.elim
    | some us =>
      rw [hn]
      exact q _ _ _ _ I1 x1 st1 .nil
theorem m_seq (c : Ct X g W kk) {ps : List Pattern} {k : Hc → List D → Option (Option Bs)} {n : Nat} {pos : Pos} (h : PatE X g ps k) (hn : ps.length = n := by rfl) (hstar : ps.findIdx? (·.isStar) = none := by rfl)
    (hwild : (ps.all fun p => p.isWildcard || (p.isStar && p.names.isEmpty)) = false := by rfl) : PatR X g (.MatchSequence ps pos) (seqP n k) := by
  refine ⟨fun pins s σ H z hc d v u r Q I st rd rv e q => ?_⟩
  have big : ∀ {n : Nat}, n ≤ sizeLine → (n : Int) < 2 ^ 63 := fun h => by
    have := sizeLine_eq
    omega
  have miss : ∀ {T : String}, s.TypeIs u T → flagOfType true (.type T) = pure false → r = none → wpAny (model X.prog X.w) X.A (matchPattern (.MatchSequence ps pos) X.env u) Q X.xe s := fun hT hf er => by
    subst er
    exact wpAny_matchPattern_Sequence (wpAny_collectionFlag hT hf (q _ _ _ _ I (.refl _ _) st trivial)) hstar hwild
  have lists : ∀ (e : ((hc.lst? d).bind fun ds => if ds.length = n then k hc ds else some none) = some r), wpAny (model X.prog X.w) X.A (matchPattern (.MatchSequence ps pos) X.env u) Q X.xe s := fun e => by
    obtain ⟨ds, e1, e2⟩ := Option.bind_eq_some_iff.mp e
    obtain ⟨a, ys, rfl, hl, rl⟩ := st.list e1 rd
    rw [← c.hK] at hl
    obtain ⟨its, rvs, pl, hz⟩ := I.list hl
    cases rv
    have hsz : its.toArray.size = ds.length := by rw [List.size_toArray, ← rvs.length, rl.length]
    have hfit : (its.toArray.size : Int) < 2 ^ 63 := big (by rw [hsz, rl.length]; exact hz)
    by_cases hl2 : ds.length = n
    · rw [if_pos hl2] at e2
      have hps : its.toArray.size = ps.length := by rw [hsz, hl2, hn]
      refine matchSeq_list_hit pl.isList hfit hps ?_ hstar hwild
      rw [← hps]
      refine PySem.W.kun_itemsOf (s := { s with toks := s.toks + 1 + 1 }) (I.ok.hd c.calm) pl.isList fun h' hx => ?_
      have I1 : Inv X pins σ H { s with heap := h', toks := s.toks + 1 + 1 } := I.kept (t' := s.toks + 1 + 1) fun b o e => hx b o (Nat.ne_of_lt (Heap.lt_size e)) e
      exact h.run pins _ σ H z hc ds ys _ r Q I1 st rl (by simpa using rvs) e2 q
    · rw [if_neg hl2] at e2
      cases e2
      exact matchSeq_list_miss pl.isList hfit (by rw [hsz, hn]; exact hl2) (q _ _ _ _ (I.tok _) (.refl _ _) st trivial) hstar hwild
  cases rd with
  | tup h1 q1 =>
    rename_i a ys ds
    cases rv
    have h1' := SqT.mono st.sub h1
    rw [← c.hK] at h1'
    obtain ⟨its, rvs, ht, hz⟩ := I.tuple h1'
    have hsz : its.toArray.size = ds.length := by rw [List.size_toArray, ← rvs.length, q1.length]
    have hfit : (its.toArray.size : Int) < 2 ^ 63 := big (by rw [hsz, q1.length]; exact hz)
    have e' : (if ds.length = n then k hc ds else some none) = some r := e
    by_cases hl2 : ds.length = n
    · rw [if_pos hl2] at e'
      have hps : its.toArray.size = ps.length := by rw [hsz, hl2, hn]
      refine matchSeq_tuple_hit ht hfit hps ?_ hstar hwild
      rw [← hps]
      refine wpAny_unpackItems_tuple (s := { s with toks := s.toks + 1 + 1 }) (I.ok.hd c.calm) ht fun h' hx => ?_
      have I1 : Inv X pins σ H { s with heap := h', toks := s.toks + 1 + 1 } := I.kept (t' := s.toks + 1 + 1) fun b o e => hx b o (Nat.ne_of_lt (Heap.lt_size e)) e
      exact h.run pins _ σ H z hc ds ys _ r Q I1 st q1 (by simpa using rvs) e' q
    · rw [if_neg hl2] at e'
      cases e'
      exact matchSeq_tuple_miss ht hfit (by rw [hsz, hn]; exact hl2) (q _ _ _ _ (I.tok _) (.refl _ _) st trivial) hstar hwild
  | lst h1 q1 => exact lists e
  | kl h1 q1 => exact lists e
  | loc h1 => exact lists e
  | str x => cases e; obtain ⟨t, rfl⟩ := rv; exact miss (typeIs_str _ _ _) flag_seq_str rfl
  | int x => cases e; obtain ⟨t, rfl⟩ := rv; exact miss (typeIs_int _ _ _) flag_seq_int rfl
  | bl x => cases e; cases rv; exact miss (T := "bool") rfl flag_seq_bool rfl
  | non => cases e; cases rv; exact miss (T := "NoneType") rfl flag_seq_None rfl
  | dct h1 l1 q1 =>
    cases e
    cases rv
    obtain ⟨_, _, _, _, o, _, _, ho, hx, _⟩ := dk_of I.hok (st.sub _ _ h1)
    exact miss (T := "dict") ⟨o, ho, hx.1⟩ flag_seq_dict rfl
  | fn i => cases e
  | ty i => cases e
  | ex h => cases e
/-! ### the cases -/
abbrev CMt := D → Sl → Hc → RS
def bindAll (sl : Sl) : Bs → Sl
  | [] => sl
  | (i, d) :: bs => bindAll (sl.set i (some d)) bs
structure PC (X : Cx) (g : Gx) (W : WX) (cs : List MatchCase) (f : CMt) : Prop where
  run : ∀ (pins : List (Addr × Obj)) (s : Shared) (σ : L2.St) (H : Hp) (z : Fz) (sl : Sl) (hc : Hc) (d : D) (v : V) (u : Value) (first : Bool) (E : Ends), Inv X pins σ H s → Sv g z sl σ → StR g z H hc → RelD g z d v → RelV v u → OutS g W z H (f d sl hc) E →
    wpAny (model X.prog X.w) X.A (matchCases cs X.env u first) (SP X pins E) X.xe s
def endC : CMt := fun _ sl hc => .nx sl hc
def caseC (p : PMt) (tt : Sl → Hc → Res Bool) (fb : Sl → Hc → RS) (k : CMt) : CMt := fun d sl hc => match p hc d with
  | none => .bad
  | some none => k d sl hc
  | some (some bs) => (tt (bindAll sl bs) hc).toS (bindAll sl bs) fun b hc1 => if b then fb (bindAll sl bs) hc1 else k d (bindAll sl bs) hc1
theorem c_nil : PC X g W [] endC := ⟨fun pins s σ H z sl hc d v u first E I hs st rd rv o => wpAny_matchCases_nil ⟨σ, H, I, o z H σ (.refl _ _) hs st⟩⟩
theorem bind_all (hN : X.N.Nodup) {pins : List (Addr × Obj)} {H : Hp} {Q : Unit → Shared → Prop} : ∀ {bs : Bs} {us : List (Str × Value)} {s : Shared} {σ : L2.St} {z : Fz} {sl : Sl}, Inv X pins σ H s → Sv g z sl σ → BRel X g z bs us →
    (∀ s' σ', Inv X pins σ' H s' → Sv g z (bindAll sl bs) σ' → Q () s') → wpAny (model X.prog X.w) X.A (assignInOrder (us.map fun (n, _) => bindName X.env n) (us.map (·.2))) Q X.xe s
  | _, _, s, σ, z, sl, I, hs, .nil, q => wpAny_assignInOrder_none (q s σ I hs)
  | _, _, s, σ, z, sl, I, hs, .cons (i := i) (v := v) h rd rv t, q => wpAny_assignInOrder_more (wpAny_bindName (store_ok I hN h.hi h.hx rv (fun s' I' => bind_all hN I' (hs.set rd i) t q) h.hf))
theorem c_case {p : Pattern} {body : List Stmt} {rest : List MatchCase} {f : PMt} {fb : Sl → Hc → RS} {k : CMt} (hN : X.N.Nodup) (hp : PatR X g p f) (hb : PSs X body (sI g W fb)) (hr : PC X g W rest k) : PC X g W (⟨p, none, body⟩ :: rest) (caseC f yT fb k) := by
  refine ⟨fun pins s σ H z sl hc d v u first E I hs st rd rv o => ?_⟩
  simp only [caseC] at o
  cases e : f hc d with
  | none => rw [e] at o; exact o.elim
  | some r =>
    rw [e] at o
    refine wpAny_matchCases_cons (hp.run pins s σ H z hc d v u r _ I st rd rv e fun s1 r1 z1 H1 I1 x1 st1 o1 => ?_)
    cases r with
    | none => cases r1 with
      | none => exact hr.run pins s1 σ H1 z1 sl hc d v u false E I1 (hs.ext x1) st1 (rd.mono x1.le) rv (OutS.ext o x1)
      | some _ => exact o1.elim
    | some bs => cases r1 with
      | none => exact o1.elim
      | some us => exact bind_all hN I1 (hs.ext x1) o1 fun s2 σ2 I2 hs2 => hb.run pins s2 σ2 H1 E I2 ⟨z1, _, hc, hs2, st1, OutS.ext o x1⟩
theorem c_guard {p : Pattern} {ge : Expr} {body : List Stmt} {rest : List MatchCase} {f : PMt} {tt : Sl → Hc → Res Bool} {fb : Sl → Hc → RS} {k : CMt} (hN : X.N.Nodup) (hp : PatR X g p f) (ht : PT X ge (bI g W tt)) (hb : PSs X body (sI g W fb)) (hr : PC X g W rest k) : PC X g W (⟨p, some ge, body⟩ :: rest) (caseC f tt fb k) := by
  refine ⟨fun pins s σ H z sl hc d v u first E I hs st rd rv o => ?_⟩
  simp only [caseC] at o
  cases e : f hc d with
  | none => rw [e] at o; exact o.elim
  | some r =>
    rw [e] at o
    refine wpAny_matchCases_cons (hp.run pins s σ H z hc d v u r _ I st rd rv e fun s1 r1 z1 H1 I1 x1 st1 o1 => ?_)
    cases r with
    | none => cases r1 with
      | none => exact hr.run pins s1 σ H1 z1 sl hc d v u false E I1 (hs.ext x1) st1 (rd.mono x1.le) rv (OutS.ext o x1)
      | some _ => exact o1.elim
    | some bs => cases r1 with
      | none => exact o1.elim
      | some us =>
        refine bind_all hN I1 (hs.ext x1) o1 fun s2 σ2 I2 hs2 => ?_
        refine thn (ht.run pins s2 σ2 H1 _ I2 (OutS.thenT (f := tt) hs2 st1 (OutS.ext o x1))) fun b s3 ⟨H3, I3, z3, hc3, x3, hs3, st3, o3⟩ => ?_
        cases b with
        | true => exact hb.run pins s3 σ2 H3 E I3 ⟨z3, _, hc3, hs3, st3, o3⟩
        | false => exact hr.run pins s3 σ2 H3 z3 _ hc3 d v u false E I3 hs3 st3 ((rd.mono x1.le).mono x3.le) rv o3
def matS (fe : Sl → Hc → Res D) (k : CMt) : Sl → Hc → RS := fun sl hc => (fe sl hc).toS sl fun d hc1 => k d sl hc1
theorem s_match {e : Expr} {cs : List MatchCase} {pos : Pos} {fe : Sl → Hc → Res D} {k : CMt} (he : PE X e (tI g W fe)) (hc : PC X g W cs k) : PS X (.Match e cs pos) (sI g W (matS fe k)) := by
  refine ⟨fun pins s σ H E I ⟨z, sl, hc0, hs, st, o⟩ => ?_⟩
  refine wpAny_Match (thn (he.run pins s σ H _ I (OutS.thenE (f := fe) hs st o)) fun u s1 ⟨v, H1, I1, rv, z1, d, hc1, x1, hs1, st1, r1, o1⟩ => ?_)
  exact hc.run pins s1 σ H1 z1 sl hc1 d v u true E I1 hs1 st1 r1 rv o1
end
end Bo

set_option Elab.async false
set_option linter.all false
set_option maxRecDepth 100000
set_option maxHeartbeats 4000000
set_option autoImplicit false
/-! Bo19: list(..) as a numbered list, text * int, str(), a def that is not called (fuel 0). -/
namespace Bo
open PySem PySem.Spec PyProof.Rows L2

def nlE (fs : Sl → Hc → Res (List D)) : Sl → Hc → Res D := fun sl hc => (fs sl hc).bind fun as hc1 => match as with
  | [d] => (match seqOf hc1 d with
    | some ds => .ok (.loc hc1.next) (hc1.new (.lst ds))
    | none => .bad)
  | _ => .bad
section
variable {X : Cx} {g : Gx} {W : WX} {k : Nat} {a : Expr} {fs : Sl → Hc → Res (List D)} {p pos : Pos}
theorem e_nl (c : Ct X g W k) (hm : X.mg "list" = none) (ha : PA X [a] (aI g W fs)) (hg : Gl X "list" := by rfl) (he : starEach [a] X.env = [(false, eval a X.env)] := by rfl) :
    PE X (.Call (.Name "list" p) [a] [] pos) (tI g W (nlE fs)) := by
  refine pe_imp (pe_callTy (call_list_of (X := X)) hg hm (by decide +kernel) ha (by decide) (by decide) he rfl) fun σ H Q ⟨z, sl, hc, hs, st, h⟩ => ?_
  refine aI.mono (OutE.thenA (f := fs) hs st h) fun vs H1 ⟨z1, ds, hc1, x1, hs1, st1, r1, o1⟩ => ?_
  cases r1 with
  | nil => exact o1.elim
  | @cons d ds v vs r t => cases t with
    | cons _ _ => exact o1.elim
    | nil =>
      simp only at o1
      cases e : seqOf hc1 d with
      | none => rw [e] at o1; exact o1.elim
      | some es =>
        rw [e] at o1
        have lists : ∀ (e : hc1.lst? d = some es), ∃ p ys, [v] = [V.ref p] ∧ (SqL X.K H1 p ys ∨ SqT X.K H1 p ys) ∧ RelDs g z1 es ys := fun e => by
          obtain ⟨q, ys, rfl, hl, rl⟩ := st1.list e r
          exact ⟨q, ys, rfl, .inl (by rw [c.hK]; exact hl), rl⟩
        have tot : ∃ p ys, [v] = [V.ref p] ∧ (SqL X.K H1 p ys ∨ SqT X.K H1 p ys) ∧ RelDs g z1 es ys := by
          cases r with
          | tup h1 q1 => cases e; exact ⟨_, _, rfl, .inr (by rw [c.hK]; exact SqT.mono st1.sub h1), q1⟩
          | lst h1 q1 => exact lists e
          | kl h1 q1 => exact lists e
          | loc h1 => exact lists e
          | _ => cases e
        obtain ⟨q, ys, ev, hq, ry⟩ := tot
        refine ⟨q, ys, ev, hq, fun l hl => ?_⟩
        obtain ⟨z2, x2, s2, r2⟩ := st1.newLoc (o := .lst es) (u := .lst ys) hl fun z' le _ => ⟨ys, upd_same, ry.mono le⟩
        exact o1 _ _ _ x2 s2 (.loc r2)
/-! ### text * int -/
def mulX (hc : Hc) : D → D → Option D
  | .int i, .int j => mulD hc (.int i) (.int j)
  | .str x, .int n => if n = 0 then some (.str Str.empty) else if n = 1 then some (.str x) else none
  | _, _ => none
theorem o_mulX : OpR X (binaryOp .Mult) (rP g mulX) := by
  intro pins s σ H x y v u Q I rx ry ⟨z, hc, d, e, r, st, r1, r2, er, q⟩
  cases r1 with
  | int i => cases r2 with
    | int j => exact o_mul pins s σ H _ _ v u Q I rx ry ⟨z, hc, _, _, r, st, .int i, .int j, er, q⟩
    | _ => cases er
  | str t => cases r2 with
    | int n =>
      obtain ⟨tk, rfl⟩ := rx
      obtain ⟨tk2, rfl⟩ := ry
      simp only [mulX] at er
      split at er
      · rename_i hn
        cases er
        subst hn
        exact P.mul_str_none (by decide) (by decide) ⟨.str Str.empty, H, I.tok _, ⟨_, rfl⟩, plain st q (.str _)⟩
      · split at er
        · rename_i hn
          cases er
          subst hn
          refine P.mul_str (by decide) (fun _ h => absurd h (by simp)) (fun _ h => absurd h (by simp)) ?_
          rw [if_neg (by decide), if_pos (by simp)]
          exact ⟨.str t, H, I, ⟨_, rfl⟩, plain st q (.str _)⟩
        · cases er
    | _ => cases er
  | _ => cases er
/-! ### str(x) -/
def strI (_ : Hc) : List D → Option D
  | [.int i] => if i.natAbs.log2 < 1920 then some (.str (toString i)) else none
  | _ => none
theorem b_strI : CallR X (.type "str") (rA g strI) := by
  intro pins s σ H xs us Q I r ⟨z, hc, ds, rr, st, rd, er, q⟩
  cases rd with
  | nil => cases er
  | cons h t => cases t with
    | cons _ _ => cases h <;> cases er
    | nil => cases h with
      | int i =>
        simp only [strI] at er
        split at er
        · rename_i hl
          cases er
          exact call_str_int pins s σ H _ us Q I r ⟨i, rfl, hl, plain st q (.str _)⟩
        · cases er
      | _ => cases er
end
section
variable {P : Program} {w : World} {K : PySem.W.Frag} {mg : Str → Option Value} {base : Heap} {g : Gx} {k : Nat} {x : Str} {s : Stmt} {ps : List Str}
def badC : List D → Hc → Res D := fun _ _ => .bad
theorem FnT.bad (F : TopD K mg x s)
    (hbn : ∀ (kV doc pm : Value) (an : Option Addr) (cdv ct : Value) (us : List Value), us.length = ps.length → bindArgs (PySem.W.fnOf x x (defArgs s) (defBody s) (defScope s) .none kV doc pm an cdv ct) ⟨us, []⟩ = pure (ps.zip us)) :
    FnT P w K mg base g k x badC := by
  obtain ⟨f, fd, F, hm⟩ := F
  exact ⟨f, fd, ps, ⟨fun _ _ => .inl rfl, fun _ _ _ _ _ _ _ _ _ _ _ _ _ _ _ _ _ _ _ o => o.elim⟩, F.bindsN hbn, hm, F.kp⟩
end
end Bo

set_option Elab.async false
set_option linter.all false
set_option maxRecDepth 100000
set_option maxHeartbeats 4000000
set_option autoImplicit false
/-! Bo20: a, b = x, y and a, b, c = x, y, z with plain local names. -/
namespace Bo
open PySem PySem.Spec PyProof.Rows L2
section
variable {X : Cx} {g : Gx} {W : WX} {kk : Nat} {a b c : Expr} {fs : Sl → Hc → Res (List D)} {x y w : Str} {px py pw pt pos pt2 : Pos} {kt k2 : Nat}
theorem s_par2 (i j : Nat) (ct : Ct X g W kk) (hN : X.N.Nodup) (ha : PA X [a, b] (aI g W fs)) (hi : X.N[i]? = some x := by rfl) (hj : X.N[j]? = some y := by rfl) (hij : i ≠ j := by decide)
    (hx : X.env.scope.names.lookup x = some .local := by rfl) (hy : X.env.scope.names.lookup y = some .local := by rfl)
    (hw : swappedStores [.Tuple [.Name x px, .Name y py] kt pt] (.Tuple [a, b] k2 pt2) X.env = pure (some [x, y]) := by rfl)
    (hs : swapsWithSole [.Tuple [.Name x px, .Name y py] kt pt] (.Tuple [a, b] k2 pt2) pos.line X.env = pure false := by rfl) :
    PS X (.Assign [.Tuple [.Name x px, .Name y py] kt pt] (.Tuple [a, b] k2 pt2) pos) (sI g W (asG (tupG 2 (consG (nmG i) (consG (nmG j) nilG))) (tupE fs))) := by
  refine ps_imp (ps_par ct.calm hN hi hj hij hx hy ha hw hs) fun E σ H ⟨z, sl, hc, hsv, st, h⟩ => ?_
  refine ⟨z, sl, hc, hsv, st, ?_⟩
  unfold asG tupE at h
  cases e : fs sl hc with
  | bad => rw [e] at h; exact h.elim
  | exc c hc1 => rw [e] at h; exact fun z' H' xx ss => h z' H' σ xx (hsv.ext xx) ss
  | ok ds hc1 =>
    rw [e] at h
    intro z' H' vs xx ss rd
    simp only [Res.bind] at h
    split at h
    · simp only [Res.toS] at h
      cases rd with
      | nil => exact h.elim
      | cons r1 t => cases t with
        | nil => exact h.elim
        | cons r2 t2 => cases t2 with
          | cons _ _ => exact h.elim
          | nil => exact ⟨_, _, rfl, h z' H' _ xx (((hsv.ext xx).set r1 i).set r2 j) ss⟩
    · exact h.elim
theorem s_par3 (i j l : Nat) (ct : Ct X g W kk) (hN : X.N.Nodup) (ha : PA X [a, b, c] (aI g W fs)) (hi : X.N[i]? = some x := by rfl) (hj : X.N[j]? = some y := by rfl) (hl : X.N[l]? = some w := by rfl) (hij : i ≠ j := by decide) (hil : i ≠ l := by decide) (hjl : j ≠ l := by decide)
    (hx : X.env.scope.names.lookup x = some .local := by rfl) (hy : X.env.scope.names.lookup y = some .local := by rfl) (hz : X.env.scope.names.lookup w = some .local := by rfl)
    (hw : swappedStores [.Tuple [.Name x px, .Name y py, .Name w pw] kt pt] (.Tuple [a, b, c] k2 pt2) X.env = pure (some [x, y, w]) := by rfl)
    (hs : swapsWithSole [.Tuple [.Name x px, .Name y py, .Name w pw] kt pt] (.Tuple [a, b, c] k2 pt2) pos.line X.env = pure false := by rfl) :
    PS X (.Assign [.Tuple [.Name x px, .Name y py, .Name w pw] kt pt] (.Tuple [a, b, c] k2 pt2) pos) (sI g W (asG (tupG 3 (consG (nmG i) (consG (nmG j) (consG (nmG l) nilG)))) (tupE fs))) := by
  refine ps_imp (ps_par3 ct.calm hN hi hj hl hij hil hjl hx hy hz ha hw hs) fun E σ H ⟨z, sl, hc, hsv, st, h⟩ => ?_
  refine ⟨z, sl, hc, hsv, st, ?_⟩
  unfold asG tupE at h
  cases e : fs sl hc with
  | bad => rw [e] at h; exact h.elim
  | exc c hc1 => rw [e] at h; exact fun z' H' xx ss => h z' H' σ xx (hsv.ext xx) ss
  | ok ds hc1 =>
    rw [e] at h
    intro z' H' vs xx ss rd
    simp only [Res.bind] at h
    split at h
    · simp only [Res.toS] at h
      cases rd with
      | nil => exact h.elim
      | cons r1 t => cases t with
        | nil => exact h.elim
        | cons r2 t2 => cases t2 with
          | nil => exact h.elim
          | cons r3 t3 => cases t3 with
            | cons _ _ => exact h.elim
            | nil => exact ⟨_, _, _, rfl, h z' H' _ xx ((((hsv.ext xx).set r1 i).set r2 j).set r3 l) ss⟩
    · exact h.elim
end
end Bo

set_option Elab.async false
set_option linter.all false
set_option maxRecDepth 100000
set_option maxHeartbeats 4000000
set_option autoImplicit false
/-! Bo21: step lemmas of the denotations, texts one behind the other, what repr shows. Plain mathematics. -/
namespace Bo
open PySem PySem.Spec PyProof.Rows L2
/-! ### steps -/
section
variable {sl sl' : Sl} {hc hc1 hc2 hc3 : Hc} {d a b c : D} {ds as : List D} {f k h : Sl → Hc → Res D} {fs : Sl → Hc → Res (List D)} {F G : Sl → Hc → RS} {t u : Sl → Hc → Res Bool} {r : RS}
theorem seqN (e : F sl hc = .nx sl' hc1) : seqS F G sl hc = G sl' hc1 := by
  unfold seqS
  rw [e]
theorem seqR (e : F sl hc = .rt d hc1) : seqS F G sl hc = .rt d hc1 := by
  unfold seqS
  rw [e]
theorem ifY (e : t sl hc = .ok true hc1) (e2 : F sl hc1 = r) : ifS t F G sl hc = r := by
  unfold ifS
  rw [e]
  exact e2
theorem ifN (e : t sl hc = .ok false hc1) (e2 : G sl hc1 = r) : ifS t F G sl hc = r := by
  unfold ifS
  rw [e]
  exact e2
theorem retO (e : f sl hc = .ok d hc1) : retS f sl hc = .rt d hc1 := by
  unfold retS
  rw [e]
  rfl
theorem asgO {i : Nat} (e : f sl hc = .ok d hc1) : asgS i f sl hc = .nx (sl.set i (some d)) hc1 := by
  unfold asgS
  rw [e]
  rfl
theorem exO (e : f sl hc = .ok d hc1) : exS f sl hc = .nx sl hc1 := by
  unfold exS
  rw [e]
  rfl
theorem asgG {ft : D → Sl → Option Sl} (e : f sl hc = .ok d hc1) (e2 : ft d sl = some sl') : asG ft f sl hc = .nx sl' hc1 := by
  unfold asG
  rw [e]
  simp only [Res.toS, e2]
theorem forO {ft : D → Sl → Option Sl} {fi : Sl → Hc → Res (List D)} (e : fi sl hc = .ok ds hc1) (e2 : loopS ft F ds sl hc1 = r) : forS ft fi F sl hc = r := by
  unfold forS
  rw [e]
  exact e2
theorem loopNil {ft : D → Sl → Option Sl} : loopS ft F [] sl hc = .nx sl hc := rfl
theorem loopCons {ft : D → Sl → Option Sl} {sl1 : Sl} (e : ft d sl = some sl1) (e2 : F sl1 hc = .nx sl' hc1) : loopS ft F (d :: ds) sl hc = loopS ft F ds sl' hc1 := by
  rw [loopS, e]
  simp only [e2]
theorem opO {op : Hc → D → D → Option D} (e1 : f sl hc = .ok a hc1) (e2 : k sl hc1 = .ok b hc2) (e : op hc2 a b = some c) : opE op f k sl hc = .ok c hc2 := by
  unfold opE
  rw [e1]
  simp only [Res.bind, e2, e, lift]
theorem unO {op : Hc → D → Option D} (e1 : f sl hc = .ok a hc1) (e : op hc1 a = some c) : unE op f sl hc = .ok c hc1 := by
  unfold unE
  rw [e1]
  simp only [Res.bind, e, lift]
theorem blO {op : Hc → List D → Option D} (e1 : fs sl hc = .ok as hc1) (e : op hc1 as = some c) : blE op fs sl hc = .ok c hc1 := by
  unfold blE
  rw [e1]
  simp only [Res.bind, e, lift]
theorem kO (e1 : f sl hc = .ok a hc1) (e2 : fs sl hc1 = .ok as hc2) : kA f fs sl hc = .ok (a :: as) hc2 := by
  unfold kA
  rw [e1]
  simp only [Res.bind, e2]
theorem k1 (e1 : f sl hc = .ok a hc1) : kA f nA sl hc = .ok [a] hc1 := kO e1 rfl
theorem callO {cl : List D → Hc → Res D} {q : Res D} (e1 : fs sl hc = .ok as hc1) (e : cl as hc1 = q) : callE cl fs sl hc = q := by
  unfold callE
  rw [e1]
  exact e
theorem tupO (e1 : fs sl hc = .ok as hc1) (e : as.length ≤ 1000) : tupE fs sl hc = .ok (.tup as) hc1 := by
  unfold tupE
  rw [e1]
  have : as.length ≤ sizeLine := by rw [sizeLine_eq]; omega
  simp only [Res.bind, if_pos this]
theorem lstO (e1 : fs sl hc = .ok as hc1) (e : as.length ≤ 1000) : lstE fs sl hc = .ok (.lst as) hc1 := by
  unfold lstE
  rw [e1]
  have : as.length ≤ sizeLine := by rw [sizeLine_eq]; omega
  simp only [Res.bind, if_pos this]
theorem newO (e1 : fs sl hc = .ok as hc1) (e : as.length ≤ 1000) : newE fs sl hc = .ok (.loc hc1.next) (hc1.new (.lst as)) := by
  unfold newE
  rw [e1]
  have : as.length ≤ sizeLine := by rw [sizeLine_eq]; omega
  simp only [Res.bind, if_pos this]
theorem bO {b : Bool} (e1 : f sl hc = .ok (.bl b) hc1) : bT f sl hc = .ok b hc1 := by
  unfold bT
  rw [e1]
  rfl
theorem nTO {b : Bool} (e1 : t sl hc = .ok b hc1) : nT t sl hc = .ok (!b) hc1 := by
  unfold nT
  rw [e1]
  rfl
theorem andF (e1 : t sl hc = .ok false hc1) : andT t u sl hc = .ok false hc1 := by
  unfold andT
  rw [e1]
  rfl
theorem andY {q : Res Bool} (e1 : t sl hc = .ok true hc1) (e2 : u sl hc1 = q) : andT t u sl hc = q := by
  unfold andT
  rw [e1]
  exact e2
theorem ifeY {q : Res D} (e1 : t sl hc = .ok true hc1) (e2 : f sl hc1 = q) : ifE t f k sl hc = q := by
  unfold ifE
  rw [e1]
  exact e2
theorem ifeN {q : Res D} (e1 : t sl hc = .ok false hc1) (e2 : k sl hc1 = q) : ifE t f k sl hc = q := by
  unfold ifE
  rw [e1]
  exact e2
theorem itO {it : Hc → D → Option (List D)} (e1 : f sl hc = .ok d hc1) (e : it hc1 d = some ds) : itE it f sl hc = .ok ds hc1 := by
  unfold itE
  rw [e1]
  simp only [Res.bind, e]
theorem lcO {vs : List Nat} {ft : D → Sl → Option Sl} {fi : Sl → Hc → Res (List D)} (e1 : fi sl hc = .ok ds hc1) (m : mapC ft t f (wipeS sl vs) ds hc1 = .ok as hc2) (hz : as.length ≤ 1000) : lcE vs ft fi t f sl hc = .ok (.lst as) hc2 := by
  unfold lcE
  rw [e1]
  have : as.length ≤ sizeLine := by rw [sizeLine_eq]; omega
  simp only [Res.bind, m, if_pos this]
theorem slO {fl fh : Sl → Hc → Res (Option Int)} {lo hi : Option Int} (h1 : f sl hc = .ok d hc1) (h2 : fl sl hc1 = .ok lo hc2) (h3 : fh sl hc2 = .ok hi hc3) (h4 : slD hc3 d lo hi = some a) : slE f fl fh sl hc = .ok a hc3 := by
  unfold slE
  rw [h1]
  simp only [Res.bind, h2, h3, h4, lift]
theorem sOO {i : Int} (h : f sl hc = .ok (.int i) hc1) : sO f sl hc = .ok (some i) hc1 := by
  unfold sO
  rw [h]
  rfl
theorem vO {i : Nat} (e : sl[i]? = some (some d)) : vE i sl hc = .ok d hc := by
  unfold vE
  rw [e]
theorem jO {x : Str} (e1 : f sl hc = .ok (.str x) hc1) (e2 : k sl hc1 = .ok d hc2) (e : joinD hc2 x d = some a) : joinE f k sl hc = .ok a hc2 := by
  unfold joinE
  rw [e1]
  simp only [Res.bind, e2, e, lift]
theorem mtO {op : Hc → D → List D → Option (D × Hc)} (e1 : f sl hc = .ok d hc1) (e : isLoc hc1 d = true) (e2 : fs sl hc1 = .ok as hc2) (e3 : op hc2 d as = some (a, hc3)) : mtE op f fs sl hc = .ok a hc3 := by
  unfold mtE
  rw [e1]
  simp only [Res.bind, e, if_true, e2, e3]
theorem nlO (e1 : fs sl hc = .ok [d] hc1) (e : seqOf hc1 d = some ds) : nlE fs sl hc = .ok (.loc hc1.next) (hc1.new (.lst ds)) := by
  unfold nlE
  rw [e1]
  simp only [Res.bind, e]
theorem matO {m : CMt} (e1 : f sl hc = .ok d hc1) (e2 : m d sl hc1 = r) : matS f m sl hc = r := by
  unfold matS
  rw [e1]
  exact e2
theorem fnO {np n : Nat} (hl : ds.length = np) (e : F (startS n ds) hc = .rt d hc1) : fnR np n F ds hc = .ok d hc1 := by
  unfold fnR
  rw [if_pos hl, e]
end
/-! ### texts -/
theorem str_eq {x y : Str} (h : x.cps.toList = y.cps.toList) : x = y := PySem.W.str_of_cps h
theorem app_list (x y : Str) : (x ++ y).cps.toList = x.cps.toList ++ y.cps.toList := by
  show (x.cps ++ y.cps).toList = _
  simp
theorem empty_app (x : Str) : Str.empty ++ x = x := str_eq (by rw [app_list]; rfl)
theorem app_empty (x : Str) : x ++ Str.empty = x := str_eq (by rw [app_list]; show _ ++ [] = _; simp)
theorem app_assoc (x y z : Str) : x ++ y ++ z = x ++ (y ++ z) := str_eq (by simp only [app_list, List.append_assoc])
theorem app_len (x y : Str) : (x ++ y).length = x.length + y.length := by
  show (x.cps ++ y.cps).size = _
  simp [Str.length]
theorem add_str {hc : Hc} {x y : Str} (h : x.length + y.length ≤ 1000000) : addD hc (.str x) (.str y) = some (.str (x ++ y)) := by
  have : x.length + y.length ≤ sizeLine := by rw [sizeLine_eq]; omega
  simp only [addD, if_pos this]
theorem fmt_str {hc : Hc} {x : Str} (h : x.length ≤ 1000000) : fmtD hc (.str x) = some (.str x) := by
  have : x.length ≤ sizeLine := by rw [sizeLine_eq]; omega
  simp only [fmtD, if_pos this]
/-- the parts of an f-string -/
theorem jsN {acc : Str} {sl : Sl} {hc : Hc} : jsR [] acc sl hc = .ok (.str acc) hc := rfl
theorem jsC {f : Sl → Hc → Res D} {fs : List (Sl → Hc → Res D)} {acc y : Str} {sl : Sl} {hc hc1 : Hc} {q : Res D} (e : f sl hc = .ok (.str y) hc1) (hl : acc.length + y.length ≤ 1000000) (e2 : jsR fs (acc ++ y) sl hc1 = q) : jsR (f :: fs) acc sl hc = q := by
  have : (acc ++ y).length ≤ sizeLine := by rw [app_len, sizeLine_eq]; omega
  rw [jsR, e]
  simp only [Res.bind, if_pos this]
  exact e2
/-- a list of texts joined -/
theorem joinLen (sep : Str) : ∀ ys : List Str, (Str.join sep ys).length ≤ (ys.map (·.length)).sum + ys.length * sep.length := fun ys => by
  have := PySem.StrLaws.join_length_le sep ys
  omega
theorem strsOf_map : ∀ ys : List Str, strsOf (ys.map D.str) = some ys
  | [] => rfl
  | y :: ys => by simp only [List.map_cons, strsOf, strsOf_map ys, Option.map_some]
theorem join_lst {hc : Hc} {sep : Str} {ys : List Str} (h : (ys.map (·.length)).sum + ys.length * sep.length ≤ 16777216) : joinD hc sep (.lst (ys.map D.str)) = some (.str (Str.join sep ys)) := by
  unfold joinD
  have e : seqOf hc (.lst (ys.map D.str)) = some (ys.map D.str) := rfl
  rw [e, Option.bind_some, strsOf_map, Option.bind_some, if_pos h, TL.join_eq]
/-! ### what repr shows -/
structure Fit (k w : Nat) (d : D) : Prop where
  ex : ∃ p, toPy d = some p ∧ p.showable = true ∧ p.leavesShort 50 = true ∧ p.weight ≤ w ∧ p.depth ≤ k ∧ p.canLay0 = true
theorem Fit.mono {k w k' w' : Nat} {d : D} (h : Fit k w d) (h1 : k ≤ k') (h2 : w ≤ w') : Fit k' w' d := by
  obtain ⟨p, a, b, c, e, f, l⟩ := h.ex
  exact ⟨p, a, b, c, by omega, by omega, l⟩
theorem fit_str {x : Str} (h : Wd x) : Fit 0 40 (.str x) := ⟨.str x, rfl, by simp [PyData.showable], h.short, h.weight, by simp [PyData.depth], by simp only [PyData.canLay0, h.ok]⟩
theorem fit_non : Fit 0 0 .non := ⟨.none, rfl, by simp [PyData.showable], by simp [PyData.leavesShort], by simp [PyData.weight], by simp [PyData.depth], by simp [PyData.canLay0]⟩
theorem fit_bl (b : Bool) : Fit 0 0 (.bl b) := ⟨.bool b, rfl, by simp [PyData.showable], by simp [PyData.leavesShort], by simp [PyData.weight], by simp [PyData.depth], by simp [PyData.canLay0]⟩
theorem fit_all {k w : Nat} : ∀ {ds : List D} (_ : ∀ d ∈ ds, Fit k w d), ∃ ps, toPys ds = some ps ∧ PyData.showableAll ps = true ∧ PyData.leavesShortAll 50 ps = true ∧ PyData.weightAll ps ≤ (w + 1) * ds.length ∧ PyData.depthAll ps ≤ k ∧ PyData.canLayAll0 ps = true
  | [], _ => ⟨[], rfl, by simp [PyData.showableAll], by simp [PyData.leavesShortAll], by simp [PyData.weightAll], by simp [PyData.depthAll], by simp [PyData.canLayAll0]⟩
  | d :: ds, h => by
    obtain ⟨p, a, b, c, e, f, l⟩ := (h d List.mem_cons_self).ex
    obtain ⟨ps, a', b', c', e', f', l'⟩ := fit_all fun z hz => h z (List.mem_cons_of_mem _ hz)
    refine ⟨p :: ps, by simp only [toPys, a, a', Option.bind_some, Option.map_some], by simp only [PyData.showableAll, b, b', Bool.and_self], by simp only [PyData.leavesShortAll, c, c', Bool.and_self], ?_, ?_, by simp only [PyData.canLayAll0, l, l', Bool.and_self]⟩
    · rw [PyData.weightAll, List.length_cons, Nat.mul_succ]
      omega
    · rw [PyData.depthAll]
      exact Nat.max_le.mpr ⟨f, f'⟩
theorem fit_tup {k w : Nat} {ds : List D} (h : ∀ d ∈ ds, Fit k w d) : Fit (k + 1) ((w + 1) * ds.length) (.tup ds) := by
  obtain ⟨ps, a, b, c, e, f, l⟩ := fit_all h
  refine ⟨.tuple ps, by simp only [toPy, a, Option.map_some], by simp only [PyData.showable, b], by simp only [PyData.leavesShort, c], ?_, ?_, by simp only [PyData.canLay0, l]⟩
  · rw [PyData.weight]; exact e
  · rw [PyData.depth]; omega
theorem Fit.repr {k w : Nat} {d : D} {hc : Hc} (h : Fit k w d) (hk : k ≤ 64) (hw : w ≤ 100000) (hd : ∀ n, d ≠ .loc n) (hd2 : ∀ a b, d ≠ .dct a b) : ∃ y, reprD hc d = some (.str y) := by
  obtain ⟨p, a, b, c, e, f, l⟩ := h.ex
  have t : toPyR hc d = some p := by
    cases d with
    | dct x y => exact absurd rfl (hd2 x y)
    | loc n => exact absurd rfl (hd n)
    | _ => exact a
  have ff : fitsR p = true := fits_of b c (by omega) (by omega)
  exact ⟨_, by unfold reprD; rw [t, Option.bind_some, if_pos ff]⟩
/-- t != () -/
theorem ne_unit {k w : Nat} {ds : List D} {hc : Hc} (h : ∀ d ∈ ds, Fit k w d) (hk : k < 64) : neO hc (.tup ds) (.tup []) = some (.bl (!ds.isEmpty)) := by
  obtain ⟨p, a, b, c, e, f, l⟩ := (fit_tup h).ex
  obtain ⟨ps, a2, _⟩ := fit_all h
  have ep : p = .tuple ps := by
    simp only [toPy, a2, Option.map_some, Option.some.injEq] at a
    exact a.symm
  have s1 : SeqAt.shaped p = true := by
    unfold SeqAt.shaped
    rw [Bool.and_eq_true]
    exact ⟨l, decide_eq_true (by omega)⟩
  have s2 : SeqAt.shaped (.tuple []) = true := by decide
  have ee : eqD hc (.tup ds) (.tup []) = some ds.isEmpty := by
    show (match toPy1 hc (.tup ds), toPy1 hc (.tup []) with
      | some p, some q => if SeqAt.shaped p && SeqAt.shaped q then some (PyData.eqv p q) else none
      | _, _ => none) = _
    have t1 : toPy1 hc (.tup ds) = some p := a
    have t2 : toPy1 hc (.tup []) = some (.tuple []) := rfl
    rw [t1, t2]
    simp only [s1, s2, Bool.and_self, if_true]
    subst ep
    cases ds with
    | nil =>
      simp only [toPys, Option.some.injEq] at a2
      subst a2
      simp [PyData.eqv, PyData.eqvAll]
    | cons d ds =>
      simp only [toPys, Option.bind_eq_some_iff, Option.map_eq_some_iff] at a2
      obtain ⟨x, _, xs, _, rfl⟩ := a2
      simp [PyData.eqv, PyData.eqvAll]
  unfold neO
  rw [ee]
  rfl
end Bo

set_option Elab.async false
set_option linter.all false
set_option maxRecDepth 100000
set_option maxHeartbeats 4000000
set_option autoImplicit false
/-! Bo22: promises by position, instances, fields, methods, making, star parameters. -/
namespace Bo
open PySem PySem.Spec L2

/-- what stands at f does what cl says, called by position with room for k -/
structure FnV (P : Program) (w : World) (K : PySem.W.Frag) (mg : Str → Option Value) (base : Heap) (g : Gx) (k : Nat) (f : Addr) (cl : List D → Hc → Res D) : Prop where
  run : ∀ (A : Around) (outer : List Env) (s : Shared) (H : Hp) (us : List Value) (vs : List V) (z : Fz) (hc : Hc) (ds : List D) (Q : VK) (E : XK), Room k A → A.guards = some [] → Env0 P w K mg base A outer s H → Vals vs us →
    StR g z H hc → RelDs g z ds vs → OutC g z H (cl ds hc) Q E → codeAny (model P w) A (.call (.ref f) ⟨us, []⟩) (CR (L2.CX P w) outer P w H s Q E) s
section
variable {P : Program} {w : World} {K : PySem.W.Frag} {mg : Str → Option Value} {base : Heap} {g : Gx} {j k : Nat} {f : Addr} {fd : FuncData} {ps N : List Str} {cl : List D → Hc → Res D}
theorem FnI.v (F : FnI P w K mg base g k f fd ps cl) (hb : Binds K fd ps []) : FnV P w K mg base g k f cl := ⟨fun A outer s H us vs z hc ds Q E hr hgd e0 rv st rd o => by
  have hl : us.length = ps.length := by
    rcases F.len ds hc with e | e
    · rw [e] at o; exact o.elim
    · rw [← rv.length, ← rd.length]; exact e
  have inK : K.In s.heap := e0.mod.kin.keeps fun b o e => (e0.bs b o e).1
  have bb := hb s us inK (by rw [List.append_nil]; exact hl)
  rw [List.append_nil] at bb
  exact F.run A outer s H ⟨us, []⟩ us vs z hc ds Q E hr hgd e0 bb rv st rd o⟩
theorem FnV.mono (F : FnV P w K mg base g j f cl) (h : j ≤ k) : FnV P w K mg base g k f cl := ⟨fun A outer s H us vs z hc ds Q E hr => F.run A outer s H us vs z hc ds Q E (hr.mono h)⟩
/-- no fuel: nothing is promised -/
theorem FnV.bad : FnV P w K mg base g k f badC := ⟨fun A outer s H us vs z hc ds Q E hr hgd e0 rv st rd o => o.elim⟩
/-- def f(a, .., *v) -/
def fnStar (np n : Nat) (body : Sl → Hc → RS) : List D → Hc → Res D := fun ds hc => if np ≤ ds.length ∧ ds.length ≤ sizeLine then (match body (startS n (ds.take np ++ [.tup (ds.drop np)])) hc with
  | .rt d h => .ok d h
  | .nx _ h => .ok .non h
  | .exc c _ h => .exc c h
  | _ => .bad) else .bad
theorem FnV.star {x qual pv : Str} {params : Arguments} {body : List Stmt} {scope : Scope} {fb : Sl → Hc → RS} (F : FunD K x qual params body scope [] [] f fd) (S : FnScope N (ps ++ [pv]) scope) (hgK : K = g.K)
    (hbind : ∀ (kV doc pm : Value) (an : Option Addr) (cdv ct : Value) (us rest : List Value), us.length = ps.length → bindArgs (PySem.W.fnOf x qual params body scope .none kV doc pm an cdv ct) ⟨us ++ rest, []⟩ = (newTuple rest >>= fun t => pure (ps.zip us ++ [(pv, t)])))
    (hb : ∀ (cdv : Value) (A : Around) (outer : List Env) (s : Shared) (H : Hp) (E : XK), Ct (cxB P w K mg base N qual scope f cdv A outer s H E) g (fun cls d _ H => E cls d H) k → PassesOwn (model P w) (cxB P w K mg base N qual scope f cdv A outer s H E).A (cxB P w K mg base N qual scope f cdv A outer s H E).env (cxB P w K mg base N qual scope f cdv A outer s H E).xe →
      PSs (cxB P w K mg base N qual scope f cdv A outer s H E) body (sI g (fun cls d _ H => E cls d H) fb)) :
    FnV P w K mg base g (k + 1) f (fnStar ps.length N.length fb) := by
  obtain ⟨oc, od, dV, kV, doc, pm, an, cdv, ct, osl, rfl, lk, hcd, hdv, _⟩ := F.ex
  have hdV : dV = .none := by
    rcases hdv with ⟨_, h⟩ | ⟨h, _⟩
    · exact h
    · exact absurd rfl h
  subst hdV
  refine ⟨fun A outer s H us vs z hc ds Q E hr hgd e0 rv st rd o => ?_⟩
  unfold fnStar at o
  by_cases hl : ps.length ≤ ds.length ∧ ds.length ≤ sizeLine
  · rw [if_pos hl] at o
    have hvl : vs.length = ds.length := rd.length.symm
    have ev : vs = vs.take ps.length ++ vs.drop ps.length := (List.take_append_drop _ _).symm
    obtain ⟨u1, u2, rfl, r1, r2⟩ := StX.vals_split (ws := vs.take ps.length) (rest := vs.drop ps.length) (us := us) (by rw [← ev]; exact rv)
    have l1 : (vs.take ps.length).length = ps.length := by rw [List.length_take]; omega
    have l2 : (vs.drop ps.length).length ≤ sizeLine := by rw [List.length_drop]; omega
    have hn : H s.heap.objs.size = none := e0.hok.fresh (Nat.le_refl _)
    have hl1 : u1.length = ps.length := by rw [← r1.length]; exact l1
    have hl2 : u2.length ≤ sizeLine := by rw [← r2.length]; exact l2
    have hpl : ps.length + 1 ≤ N.length := by
      have q := congrArg List.length S.pre
      rw [List.length_take, List.length_append] at q
      simp at q
      omega
    refine StX.run_bnd lk hcd S hr e0 (G := fun xs H2 => ∃ p, H p = none ∧ xs = vs.take ps.length ++ [V.ref p] ∧ H2 = upd H p (.tup (vs.drop ps.length))) (fun A' Ex Q' h => ?_) fun s2 H2 xs ⟨p, hp, ex, eH⟩ hr' => ?_
    · rw [hbind kV doc pm an cdv ct u1 u2 hl1]
      refine wpAny_bind (wpAny_newTuple (wpAny_pure ?_) hl2)
      have new : ObjOk P w (upd H s.heap.objs.size (.tup (vs.drop ps.length))) (s.heap.push ({ cls := .type "tuple", data := .seq u2.toArray } : Obj)) s.heap.objs.size (.tup (vs.drop ps.length)) := ⟨l2, u2, r2, ⟨_, Heap.get?_push_size _ rfl, rfl, _, rfl⟩⟩
      have un := StX.un_laid (fs := frs outer) (s := s) (o := ({ cls := .type "tuple", data := .seq u2.toArray } : Obj)) (u := .tup (vs.drop ps.length)) hn
      have z := h _ _ (vs.take ps.length ++ [V.ref s.heap.objs.size]) (u1 ++ [Value.ref s.heap.objs.size]) (StX.env0_laid e0 new) un rfl (fun e s' => StX.cxUp outer s H _ _ E e s' un (fun b o q => Heap.get?_push_of_some _ q) rfl) (r1.append (.cons rfl .nil))
        (by rw [List.length_append, List.length_append, l1] <;> rfl) ⟨_, hn, rfl, rfl⟩
      rw [List.zip_append hl1.symm] at z
      exact z
    · subst ex eH
      have C : Ct (cxB P w K mg base N qual scope f cdv A outer s2 (upd H p (.tup (vs.drop ps.length))) E) g (fun cls d _ H => E cls d H) k := ⟨hgK, takes_of rfl rfl rfl rfl, rfl, hr', hgd⟩
      refine ⟨_, hb cdv A outer s2 _ E C (passes_of rfl), ?_⟩
      obtain ⟨z1, x1, s1, rt⟩ := st.newTup hp (rd.drop ps.length)
      refine ⟨z1, startS N.length (ds.take ps.length ++ [.tup (ds.drop ps.length)]), hc, Sv.start (((rd.take ps.length).mono x1.le).append (.cons rt .nil)) (by rw [List.length_append, l1]; simp; omega), s1, ?_⟩
      revert o
      cases fb (startS N.length (ds.take ps.length ++ [.tup (ds.drop ps.length)])) hc with
      | rt d h => exact fun o z' H' v x' s' r' => o z' H' v (x1.trans x') s' r'
      | nx sl h => exact fun o z' H' σ' x' _ s' => o z' H' .non (x1.trans x') s' .non
      | exc c sl h => exact fun o z' H' σ' x' _ s' => o z' H' (x1.trans x') s'
      | bk sl h => exact fun o => o.elim
      | ct sl h => exact fun o => o.elim
      | bad => exact fun o => o
  · rw [if_neg hl] at o
    exact o.elim
end
section
variable {X : Cx} {g : Gx} {W : WX} {k : Nat} {f : Addr} {cl : List D → Hc → Res D}
theorem run_fnV {pins : List (Addr × Obj)} {σ : St} {H : Hp} {s : Shared} {Q : VK} {us : List Value} {vs : List V} {z : Fz} {hc : Hc} {ds : List D} (F : FnV X.prog X.w X.K X.mg X.base g k f cl) (c : Ct X g W k) (I : Inv X pins σ H s) (r : Vals vs us)
    (st : StR g z H hc) (rd : RelDs g z ds vs) (o : OutE g W z H σ (cl ds hc) Q) : wpAny (model X.prog X.w) X.A (call (.ref f) us) (EP X pins σ Q) X.xe s := by
  have o' : OutC g z H (cl ds hc) Q (WE W σ) := o
  refine wpAny_call (codeAny_mono (F.run X.A X.stack s H us vs z hc ds Q (WE W σ) c.room c.guards I.env0 r st rd o') fun r s' hq => ?_)
  cases r with
  | error e => exact passAt c.tk σ pins H s e s' I hq
  | ok fl =>
    cases fl with
    | ret u => exact I.after hq
    | next => exact False.elim hq
    | brk => exact False.elim hq
    | cont => exact False.elim hq
end
/-! ### fields -/
theorem zip_lookup {g : Gx} {z : Fz} {f : Str} : ∀ {fs : List (Str × D)} {vs : List V} {d : D}, RelDs g z (fs.map (·.2)) vs → fs.lookup f = some d → ∃ v, ((fs.map (·.1)).zip vs).lookup f = some v ∧ RelD g z d v
  | [], _, _, _, e => nomatch e
  | (k, x) :: r, _, d, .cons rx rr, e => by
    cases h : f == k with
    | true =>
      simp only [List.lookup, h] at e
      cases e
      exact ⟨_, by simp only [List.map_cons, List.zip_cons_cons, List.lookup, h], rx⟩
    | false =>
      simp only [List.lookup, h] at e
      obtain ⟨v, e1, e2⟩ := zip_lookup rr e
      exact ⟨v, by simp only [List.map_cons, List.zip_cons_cons, List.lookup, h]; exact e1, e2⟩
theorem zip_none {f : Str} : ∀ {fs : List (Str × D)} {vs : List V}, fs.lookup f = none → ((fs.map (·.1)).zip vs).lookup f = none
  | [], _, _ => rfl
  | (k, x) :: r, [], _ => rfl
  | (k, x) :: r, v :: vs, e => by
    cases h : f == k with
    | true => simp only [List.lookup, h] at e; cases e
    | false =>
      simp only [List.lookup, h] at e
      simp only [List.map_cons, List.zip_cons_cons, List.lookup, h]
      exact zip_none e
def putFD (f : Str) (v : D) : List (Str × D) → List (Str × D)
  | [] => [(f, v)]
  | (g, x) :: r => if g = f then (g, v) :: r else (g, x) :: putFD f v r
theorem putF_rel {g : Gx} {z : Fz} {f : Str} {d : D} {v : V} (rd : RelD g z d v) : ∀ {fs : List (Str × D)} {vs : List V}, RelDs g z (fs.map (·.2)) vs → ∃ vs', putF f v ((fs.map (·.1)).zip vs) = ((putFD f d fs).map (·.1)).zip vs' ∧ RelDs g z ((putFD f d fs).map (·.2)) vs'
  | [], _, .nil => ⟨[v], rfl, .cons rd .nil⟩
  | (k, x) :: r, _, .cons (v := y) (vs := ys) rx rr => by
    by_cases h : k = f
    · refine ⟨v :: ys, ?_, ?_⟩
      · simp only [List.map_cons, List.zip_cons_cons, putF, putFD, if_pos h]
      · simp only [putFD, if_pos h, List.map_cons]; exact .cons rd rr
    · obtain ⟨vs', e1, e2⟩ := putF_rel (f := f) rd rr
      refine ⟨y :: vs', ?_, ?_⟩
      · simp only [List.map_cons, List.zip_cons_cons, putF, putFD, if_neg h, e1]
      · simp only [putFD, if_neg h, List.map_cons]; exact .cons rx e2
theorem StR.insAt {g : Gx} {z : Fz} {H : Hp} {hc : Hc} (st : StR g z H hc) {n c : Nat} {v : V} {fs : List (Str × D)} (h : hc.get n = some (.ins c fs)) (r : RelD g z (.loc n) v) :
    ∃ a dx vs, v = .ref a ∧ z.ρ n = some a ∧ H a = some (.ins (g.fa c) dx ((fs.map (·.1)).zip vs)) ∧ RelDs g z (fs.map (·.2)) vs := by
  cases r with
  | loc hr =>
    obtain ⟨b, e1, e2, dx, vs, e3, e4⟩ := st.obj n _ h
    rw [hr] at e1; cases e1
    exact ⟨_, dx, vs, rfl, hr, e3, e4⟩
/-- o.f, o an instance of the class c -/
def fldD (c : Nat) (f : Str) (hc : Hc) : D → Option D
  | .loc n => (match hc.get n with
    | some (.ins c' fs) => if c' = c then fs.lookup f else none
    | _ => none)
  | _ => none
theorem fldD_some {c : Nat} {f : Str} {hc : Hc} {d r : D} (e : fldD c f hc d = some r) : ∃ n fs, d = .loc n ∧ hc.get n = some (.ins c fs) ∧ fs.lookup f = some r := by
  cases d with
  | loc n =>
    simp only [fldD] at e
    cases q : hc.get n with
    | none => rw [q] at e; cases e
    | some o =>
      rw [q] at e
      cases o with
      | lst es => cases e
      | ins c' fs =>
        by_cases h : c' = c
        · subst h; simp only [if_true] at e; exact ⟨n, fs, rfl, q, e⟩
        · simp only [if_neg h] at e; cases e
  | _ => cases e
/-- o.f = v -/
def putFld (c : Nat) (f : Str) (hc : Hc) (d v : D) : Option Hc := match d with
  | .loc n => (match hc.get n with
    | some (.ins c' fs) => if c' = c ∧ fs.length < 1000 then some (hc.set n (.ins c (putFD f v fs))) else none
    | _ => none)
  | _ => none
theorem putFld_some {c : Nat} {f : Str} {hc hc' : Hc} {d v : D} (e : putFld c f hc d v = some hc') : ∃ n fs, d = .loc n ∧ hc.get n = some (.ins c fs) ∧ fs.length < 1000 ∧ hc' = hc.set n (.ins c (putFD f v fs)) := by
  cases d with
  | loc n =>
    simp only [putFld] at e
    cases q : hc.get n with
    | none => rw [q] at e; cases e
    | some o =>
      rw [q] at e
      cases o with
      | lst es => cases e
      | ins c' fs =>
        by_cases h : c' = c ∧ fs.length < 1000
        · simp only [if_pos h] at e
          cases e
          obtain ⟨rfl, h2⟩ := h
          exact ⟨n, fs, rfl, q, h2, rfl⟩
        · simp only [if_neg h] at e; cases e
  | _ => cases e
def fldS (c : Nat) (f : Str) (fo fv : Sl → Hc → Res D) : Sl → Hc → RS := fun sl hc => (fv sl hc).toS sl fun v hc1 => (fo sl hc1).toS sl fun o hc2 => match putFld c f hc2 o v with
  | some hc3 => .nx sl hc3
  | none => .bad
/-- o.f += e, ints -/
def fldA (c : Nat) (f : Str) (op : Int → Int → Int) (fo fv : Sl → Hc → Res D) : Sl → Hc → RS := fun sl hc => (fo sl hc).toS sl fun o hc1 => match fldD c f hc1 o with
  | some (.int i) => (fv sl hc1).toS sl fun v hc2 => (match v with
    | .int j => (match putFld c f hc2 o (.int (op i j)) with
      | some hc3 => .nx sl hc3
      | none => .bad)
    | _ => .bad)
  | _ => .bad
section
variable {X : Cx} {g : Gx} {W : WX} {c kk : Nat} {f : Str} {e o value : Expr} {fe fo fv : Sl → Hc → Res D} {pos p2 : Pos}
theorem e_fld (c : Nat) (ct : Ct X g W kk) (hC : Cls g.K (g.fa c)) (hN : NoAttr g.K (g.fa c) f) (he : PE X e (tI g W fe)) (hb : attributeBase e f X.env (eval e X.env) = eval e X.env := by rfl) : PE X (.Attribute e f pos) (tI g W (unE (fldD c f) fe)) := by
  refine pe_imp (pe_fld he hb) fun σ H Q ⟨z, sl, hc, hs, st, h⟩ => ?_
  refine tI.mono (OutE.thenE (f := fe) hs st h) fun v H1 ⟨z1, d1, hc1, x1, hs1, st1, r1, o1⟩ => ?_
  obtain ⟨r, er, q⟩ := o1.lift
  obtain ⟨n, fs, rfl, hg, hl⟩ := fldD_some er
  obtain ⟨a, dx, vs, rfl, hr, hH, rl⟩ := st1.insAt hg r1
  obtain ⟨u, l1, l2⟩ := zip_lookup rl hl
  exact ⟨a, g.fa c, dx, _, u, rfl, hH, by rw [ct.hK]; exact hC, by rw [ct.hK]; exact hN, l1, q z1 H1 u (.refl _ _) st1 l2⟩
theorem zip_len {fs : List (Str × D)} {vs : List V} : ((fs.map (·.1)).zip vs).length ≤ fs.length := by
  rw [List.length_zip, List.length_map]; exact Nat.min_le_left _ _
theorem s_fld (c : Nat) (ct : Ct X g W kk) (hC : Cls g.K (g.fa c)) (hN : NoAttr g.K (g.fa c) f) (ho : PE X o (tI g W fo)) (hv : PE X value (tI g W fv)) (hs : swapsWith value (some (.Attribute o f p2)) pos.line X.env = pure false := by rfl) : PS X (.Assign [.Attribute o f p2] value pos) (sI g W (fldS c f fo fv)) := by
  refine ps_imp (ps_fld ho hv hs) fun E σ H ⟨z, sl, hc, hs, s, h⟩ => ?_
  refine tI.mono (OutS.thenE (f := fv) hs s h) fun v H1 ⟨z1, d1, hc1, x1, hs1, st1, r1, o1⟩ => ?_
  refine tI.mono (OutS.thenE (f := fo) hs1 st1 o1) fun v2 H2 ⟨z2, d2, hc2, x2, hs2, st2, r2, o2⟩ => ?_
  cases e : putFld c f hc2 d2 d1 with
  | none => rw [e] at o2; exact o2.elim
  | some hc3 =>
    rw [e] at o2
    obtain ⟨n, fs, rfl, hg, hl, rfl⟩ := putFld_some e
    obtain ⟨a, dx, vs, rfl, hr, hH, rl⟩ := st2.insAt hg r2
    obtain ⟨vs', e1, e2⟩ := putF_rel (f := f) (r1.mono x2.le) rl
    refine ⟨a, g.fa c, dx, _, rfl, hH, by rw [ct.hK]; exact hC, by rw [ct.hK]; exact hN, Nat.lt_of_le_of_lt zip_len hl, ?_⟩
    rw [e1]
    obtain ⟨xx, ss⟩ := st2.write (o' := .ins c (putFD f d1 fs)) (u := .ins (g.fa c) dx (((putFD f d1 fs).map (·.1)).zip vs')) hg hr ⟨dx, vs', upd_same, e2⟩
    exact o2 z2 _ σ xx hs2 ss
theorem s_fldaug {op : Operator} {fop : Int → Int → Int} (c : Nat) (ct : Ct X g W kk) (hC : Cls g.K (g.fa c)) (hN : NoAttr g.K (g.fa c) f) (hop : InOp X op (fun x y H Q => ∃ i j, x = .int i ∧ y = .int j ∧ Q (.int (fop i j)) H)) (ho : PE X o (tI g W fo)) (hv : PE X value (tI g W fv)) :
    PS X (.AugAssign (.Attribute o f p2) op value pos) (sI g W (fldA c f fop fo fv)) := by
  refine ps_imp (ps_fldaug ho hv hop) fun E σ H ⟨z, sl, hc, hs, s, h⟩ => ?_
  refine tI.mono (OutS.thenE (f := fo) hs s h) fun v H1 ⟨z1, d1, hc1, x1, hs1, st1, r1, o1⟩ => ?_
  cases e : fldD c f hc1 d1 with
  | none => rw [e] at o1; exact o1.elim
  | some r =>
    cases r with
    | int i =>
      rw [e] at o1
      obtain ⟨n, fs, rfl, hg, hl⟩ := fldD_some e
      obtain ⟨a, dx, vs, rfl, hr, hH, rl⟩ := st1.insAt hg r1
      obtain ⟨u, l1, l2⟩ := zip_lookup rl hl
      cases l2
      refine ⟨a, g.fa c, dx, _, .int i, rfl, hH, by rw [ct.hK]; exact hC, by rw [ct.hK]; exact hN, l1, ?_⟩
      refine tI.mono (OutS.thenE (f := fv) hs1 st1 o1) fun v2 H2 ⟨z2, d2, hc2, x2, hs2, st2, r2, o2⟩ => ?_
      cases r2 with
      | int j =>
        refine ⟨i, j, rfl, rfl, ?_⟩
        dsimp only at o2
        cases e' : putFld c f hc2 (.loc n) (.int (fop i j)) with
        | none => rw [e'] at o2; exact o2.elim
        | some hc3 =>
          rw [e'] at o2
          obtain ⟨n', fs', en, hg', hl', rfl⟩ := putFld_some e'
          cases en
          obtain ⟨a', dx', vs', ea, hr', hH', rl'⟩ := st2.insAt hg' (RelD.loc (g := g) (x2.le.2 _ _ hr))
          cases ea
          obtain ⟨vs2, e1, e2⟩ := putF_rel (f := f) (.int (fop i j)) rl'
          refine ⟨dx', _, hH', Nat.lt_of_le_of_lt zip_len hl', ?_⟩
          rw [e1]
          obtain ⟨xx, ss⟩ := st2.write (o' := .ins c (putFD f (.int (fop i j)) fs')) (u := .ins (g.fa c) dx' (((putFD f (.int (fop i j)) fs').map (·.1)).zip vs2)) hg' hr' ⟨dx', vs2, upd_same, e2⟩
          exact o2 z2 _ σ xx hs2 ss
      | _ => exact o2.elim
    | _ => rw [e] at o1; exact o1.elim
end
/-! ### methods -/
/-- a method of the class c -/
structure FnM (P : Program) (w : World) (K : PySem.W.Frag) (mg : Str → Option Value) (base : Heap) (g : Gx) (k c : Nat) (m : Str) (cl : List D → Hc → Res D) : Prop where
  ex : ∃ f, FnV P w K mg base g k f cl ∧ Cls K (g.fa c) ∧ Meth K (g.fa c) m f
theorem FnM.mono {P : Program} {w : World} {K : PySem.W.Frag} {mg : Str → Option Value} {base : Heap} {g : Gx} {j k c : Nat} {m : Str} {cl : List D → Hc → Res D} (F : FnM P w K mg base g j c m cl) (h : j ≤ k) : FnM P w K mg base g k c m cl := by
  obtain ⟨f, h1, h2⟩ := F.ex
  exact ⟨f, h1.mono h, h2⟩
def mthR (c : Nat) (m : Str) (cl : List D → Hc → Res D) (fs : Sl → Hc → Res (List D)) (sl : Sl) (o : D) (hc1 : Hc) : Res D := match o with
  | .loc n => (match hc1.get n with
    | some (.ins c' fl) => if c' = c ∧ fl.lookup m = none then (fs sl hc1).bind fun ds hc2 => cl (.loc n :: ds) hc2 else .bad
    | _ => .bad)
  | _ => .bad
def mthE (c : Nat) (m : Str) (cl : List D → Hc → Res D) (fo : Sl → Hc → Res D) (fs : Sl → Hc → Res (List D)) : Sl → Hc → Res D := fun sl hc => (fo sl hc).bind fun o hc1 => mthR c m cl fs sl o hc1
section
variable {X : Cx} {g : Gx} {W : WX} {c k : Nat} {m : Str} {cl : List D → Hc → Res D} {e o : Expr} {es : List Expr} {fo : Sl → Hc → Res D} {fs : Sl → Hc → Res (List D)} {pos apos : Pos}
theorem read_mth {z : Fz} {H : Hp} {σ : St} {sl : Sl} {hc : Hc} {Q : VK} {d : D} {v : V} {j : Sl → Hc → Res (List D)} (hs : Sv g z sl σ) (st : StR g z H hc) (r : RelD g z d v) (h : OutE g W z H σ (mthR c m cl j sl d hc) Q) : ∃ (n : Nat) (fl : List (Str × D)) (a dx : Addr) (vs : List V), d = .loc n ∧ v = .ref a ∧ z.ρ n = some a ∧ H a = some (.ins (g.fa c) dx ((fl.map (·.1)).zip vs)) ∧ ((fl.map (·.1)).zip vs).lookup m = none ∧ OutE g W z H σ ((j sl hc).bind fun ds hc2 => cl (.loc n :: ds) hc2) Q := by
  unfold mthR at h
  cases d with
  | loc n =>
    dsimp only at h
    cases q : hc.get n with
    | none => rw [q] at h; exact h.elim
    | some ob =>
      rw [q] at h
      cases ob with
      | lst es => exact h.elim
      | ins c' fl =>
        dsimp only at h
        by_cases hh : c' = c ∧ fl.lookup m = none
        · rw [if_pos hh] at h
          obtain ⟨rfl, hn⟩ := hh
          obtain ⟨a, dx, vs, rfl, hr, hH, rl⟩ := st.insAt q r
          exact ⟨n, fl, a, dx, vs, rfl, rfl, hr, hH, zip_none hn, h⟩
        · rw [if_neg hh] at h; exact h.elim
  | _ => exact h.elim
theorem e_meth {pl : Sem Bool} (F : FnM X.prog X.w X.K X.mg X.base g k c m cl) (ct : Ct X g W k) (ho : PE X o (tI g W fo)) (ha : PA X (e :: es) (aI g W fs))
    (hst : starEach (e :: es) X.env = (false, eval e X.env) :: starEach es X.env := by rfl) (hpl : (backTo pos (starEach es X.env)).any (·.1) = false := by rfl)
    (ht : eval (.Call (.Attribute o m apos) (e :: es) [] pos) X.env = (do
      let ov ← eval o X.env
      standAt apos.atName
      let (f, first) ← holding [ov] (getMethod ov m pl)
      callWith pos f first (backTo pos (starEach (e :: es) X.env)) (backToKw pos (keywordEach [] X.env))) := by rfl) :
    PE X (.Call (.Attribute o m apos) (e :: es) [] pos) (tI g W (mthE c m cl fo fs)) := by
  obtain ⟨f, F, hC, hM⟩ := F.ex
  refine ⟨fun pins s σ H Q I ⟨z, sl, hc, hs, st, h⟩ => ?_⟩
  refine PySem.W.methodCall_KW (pl := pl) (thn (ho.run pins s σ H _ I (OutE.thenE (f := fo) hs st h)) fun u s1 ⟨x, H1, I1, rx, z1, d1, hc1, x1, hs1, st1, r1, o1⟩ => ?_) ht
  obtain ⟨n, fl, a, dx, vs, rfl, rfl, hr, hH, hl, o2⟩ := read_mth (j := fs) hs1 st1 r1 o1
  obtain rfl : u = Value.ref a := rx
  refine getmeth_ok I1 hH hC hM hl ?_
  refine PySem.W.callWith_K (first := [.ref a]) (h₀ := X.base) I.ok.mod.kin hM.kp (thn (ha.run pos pins s1 σ H1 _ I1 (OutE.thenA (f := fs) hs1 st1 o2)) fun us s2 ⟨ws, H2, I2, rw', z2, ds, hc2, x2, hs2, st2, rd, o3⟩ => ⟨I2.kIn, ?_⟩) hst hpl
  exact run_fnV (us := .ref a :: us) (vs := .ref a :: ws) F ct I2 (.cons rfl rw') st2 (.cons (.loc (x2.le.2 _ _ hr)) rd) o3
theorem e_meth0 {pl : Sem Bool} (F : FnM X.prog X.w X.K X.mg X.base g k c m cl) (ct : Ct X g W k) (ho : PE X o (tI g W fo))
    (ht : eval (.Call (.Attribute o m apos) [] [] pos) X.env = (do
      let ov ← eval o X.env
      standAt apos.atName
      let (f, first) ← holding [ov] (getMethod ov m pl)
      callWith pos f first (backTo pos (starEach [] X.env)) (backToKw pos (keywordEach [] X.env))) := by rfl) :
    PE X (.Call (.Attribute o m apos) [] [] pos) (tI g W (mthE c m cl fo nA)) := by
  obtain ⟨f, F, hC, hM⟩ := F.ex
  refine ⟨fun pins s σ H Q I ⟨z, sl, hc, hs, st, h⟩ => ?_⟩
  refine PySem.W.methodCall_KW (pl := pl) (thn (ho.run pins s σ H _ I (OutE.thenE (f := fo) hs st h)) fun u s1 ⟨x, H1, I1, rx, z1, d1, hc1, x1, hs1, st1, r1, o1⟩ => ?_) ht
  obtain ⟨n, fl, a, dx, vs, rfl, rfl, hr, hH, hl, o2⟩ := read_mth (j := nA) hs1 st1 r1 o1
  obtain rfl : u = Value.ref a := rx
  refine getmeth_ok I1 hH hC hM hl ?_
  exact PySem.W.callWith_K0 (first := [.ref a]) I1.kIn hM.kp (run_fnV (us := [.ref a]) (vs := [.ref a]) F ct I1 (.cons rfl .nil) st1 (.cons (.loc hr) .nil) o2)
end
/-! ### a call of none -/
theorem e_call0 {X : Cx} {g : Gx} {W : WX} {k : Nat} {x : Str} {cl : List D → Hc → Res D} {p pos : Pos} (F : FnT X.prog X.w X.K X.mg X.base g k x cl) (c : Ct X g W k) (hg : Gl X x := by rfl) (hdb : (x == ("__debug__" : Str)) = false := by decide) :
    PE X (.Call (.Name x p) [] [] pos) (tI g W (callE cl nA)) := by
  obtain ⟨f, fd, ps, F, hb, hm, hk⟩ := F.ex
  refine ⟨fun pins s σ H Q I ⟨z, sl, hc, hs, st, h⟩ => ?_⟩
  refine wpAny_Call_Name_kw (ld_glob I hg hm ?_ hdb)
  exact PySem.W.callWith_K0 I.kIn hk (run_fnI (us := []) F c hb I .nil st .nil h)
/-! ### making -/
theorem StR.side {g : Gx} {z : Fz} {H : Hp} {hc : Hc} (st : StR g z H hc) {p : Addr} {o : HO} (hp : H p = none) : Ext z H z (upd H p o) ∧ StR g z (upd H p o) hc := by
  have hne : ∀ a u, H a = some u → a ≠ p := fun a u e q => by subst q; rw [hp] at e; cases e
  refine ⟨⟨.refl z, fun a u e _ => by rw [upd_ne (hne a u e)]; exact e, fun a u e => ⟨u, by rw [upd_ne (hne a u e)]; exact e⟩, fun a u e n => (by rw [e] at n; cases n), fun n a e k => (by rw [e] at k; cases k)⟩, ⟨fun a u e => ?_, st.inj, fun n a e => ?_, st.fresh, fun n u e => ?_⟩⟩
  · have := st.sub a u e
    rw [upd_ne (hne a u this)]; exact this
  · obtain ⟨u, hu⟩ := st.live n a e
    exact ⟨u, by rw [upd_ne (hne a u hu)]; exact hu⟩
  · obtain ⟨a, h1, h2, h3⟩ := st.obj n u e
    refine ⟨a, h1, h2, ?_⟩
    cases u with
    | lst ds =>
      obtain ⟨xs, e1, e2⟩ := h3
      exact ⟨xs, by rw [upd_ne (hne a _ e1)]; exact e1, e2⟩
    | ins c fs =>
      obtain ⟨dx, vs, e1, e2⟩ := h3
      exact ⟨dx, vs, by rw [upd_ne (hne a _ e1)]; exact e1, e2⟩
/-- what is known of a class that is made by its own __init__ -/
structure FnK (P : Program) (w : World) (K : PySem.W.Frag) (mg : Str → Option Value) (base : Heap) (g : Gx) (k c : Nat) (x : Str) (cl : List D → Hc → Res D) : Prop where
  ex : ∃ f, FnV P w K mg base g k f cl ∧ Mk K (g.fa c) f ∧ mg x = some (.ref (g.fa c))
theorem FnK.mono {P : Program} {w : World} {K : PySem.W.Frag} {mg : Str → Option Value} {base : Heap} {g : Gx} {j k c : Nat} {m : Str} {cl : List D → Hc → Res D} (F : FnK P w K mg base g j c m cl) (h : j ≤ k) : FnK P w K mg base g k c m cl := by
  obtain ⟨f, h1, h2⟩ := F.ex
  exact ⟨f, h1.mono h, h2⟩
def makR (c : Nat) (cl : List D → Hc → Res D) (ds : List D) (hc : Hc) : Res D := match cl (.loc hc.next :: ds) (hc.new (.ins c [])) with
  | .ok .non hc2 => .ok (.loc hc.next) hc2
  | .exc e hc2 => .exc e hc2
  | _ => .bad
def makE (c : Nat) (cl : List D → Hc → Res D) (fs : Sl → Hc → Res (List D)) : Sl → Hc → Res D := fun sl hc => (fs sl hc).bind fun ds hc1 => makR c cl ds hc1
section
variable {X : Cx} {g : Gx} {W : WX} {c k : Nat} {x : Str} {cl : List D → Hc → Res D} {e : Expr} {es : List Expr} {fs : Sl → Hc → Res (List D)} {p pos : Pos}
theorem run_makeV {f : Addr} {pins : List (Addr × Obj)} {σ : St} {H : Hp} {s : Shared} {Q : VK} {us : List Value} {vs : List V} {z : Fz} {hc : Hc} {ds : List D} (F : FnV X.prog X.w X.K X.mg X.base g k f cl) (M : Mk X.K (g.fa c) f) (ct : Ct X g W (k + 1)) (I : Inv X pins σ H s) (r : Vals vs us)
    (st : StR g z H hc) (rd : RelDs g z ds vs) (o : OutE g W z H σ (makR c cl ds hc) Q) : wpAny (model X.prog X.w) X.A (call (.ref (g.fa c)) us) (EP X pins σ Q) X.xe s := by
  have I2 := Inv.made (C := g.fa c) I
  have hn1 : H s.heap.objs.size = none := I.hok.fresh (Nat.le_refl _)
  have hn2 : H (s.heap.objs.size + 1) = none := I.hok.fresh (Nat.le_succ _)
  have ne : s.heap.objs.size + 1 ≠ s.heap.objs.size := Nat.succ_ne_self _
  obtain ⟨x1, s1⟩ := st.side (o := .own (s.heap.objs.size + 1)) hn1
  obtain ⟨z2, x2, s2, hρ⟩ := s1.newLoc (o := .ins c []) (u := .ins (g.fa c) s.heap.objs.size []) (p := s.heap.objs.size + 1) (by rw [upd_ne ne]; exact hn2) fun z' _ _ => ⟨s.heap.objs.size, [], upd_same, .nil⟩
  have xx := x1.trans x2
  have r2 : Vals (V.ref (s.heap.objs.size + 1) :: vs) (Value.ref (s.heap.objs.size + 1) :: us) := .cons rfl r
  have oc : OutC g z2 (upd (upd H s.heap.objs.size (.own (s.heap.objs.size + 1))) (s.heap.objs.size + 1) (.ins (g.fa c) s.heap.objs.size [])) (cl (.loc hc.next :: ds) (hc.new (.ins c []))) (fun v H2 => v = .non ∧ Q (.ref (s.heap.objs.size + 1)) H2) (WE W σ) := by
    unfold makR at o
    revert o
    cases cl (.loc hc.next :: ds) (hc.new (.ins c [])) with
    | ok d hc2 =>
      intro o z' H' v x' s' r'
      cases r' with
      | non => exact ⟨rfl, o z' H' _ (xx.trans x') s' (.loc (x'.le.2 _ _ hρ))⟩
      | _ => exact o.elim
    | exc e hc2 => exact fun o z' H' x' s' => o z' H' (xx.trans x') s'
    | bad => exact fun o => o
  refine wpAny_call (make_map (f := f) I.kIn M.makes M.init (beq_iff_eq.mp M.fn) (codeAny_mono (F.run _ X.stack _ _ (Value.ref (s.heap.objs.size + 1) :: us) _ z2 _ (.loc hc.next :: ds) _ (WE W σ) (ct.room.make (g.fa c) us []) ct.guards (I2.env0.make (g.fa c) us []) r2 s2 (.cons (.loc hρ) (rd.mono xx.le)) oc) fun r s' hq' => ?_))
  cases r with
  | error e => exact passAt ct.tk σ pins _ _ e s' I2 hq'
  | ok fl =>
    cases fl with
    | ret u =>
      obtain ⟨v, H', I3, rv, ev, q3⟩ := I2.after hq'
      subst ev
      exact ⟨rv, ⟨V.ref (s.heap.objs.size + 1), H', I3, rfl, q3⟩⟩
    | next => exact False.elim hq'
    | brk => exact False.elim hq'
    | cont => exact False.elim hq'
theorem e_make (F : FnK X.prog X.w X.K X.mg X.base g k c x cl) (ct : Ct X g W (k + 1)) (ha : PA X (e :: es) (aI g W fs)) (hg : Gl X x := by rfl) (hdb : (x == ("__debug__" : Str)) = false := by decide) (he : starEach (e :: es) X.env = (false, eval e X.env) :: starEach es X.env := by rfl)
    (hpl : (backTo pos (starEach es X.env)).any (·.1) = false := by rfl) : PE X (.Call (.Name x p) (e :: es) [] pos) (tI g W (makE c cl fs)) := by
  obtain ⟨f, F, M, hm⟩ := F.ex
  refine ⟨fun pins s σ H Q I ⟨z, sl, hc, hs, st, h⟩ => ?_⟩
  refine wpAny_Call_Name_kw (ld_glob I hg hm ?_ hdb)
  refine PySem.W.callWith_K (h₀ := X.base) I.ok.mod.kin M.kp (thn (ha.run pos pins s σ H _ I (OutE.thenA (f := fs) hs st h)) fun us s1 ⟨vs, H1, I1, r, z1, ds, hc1, x1, hs1, st1, rd, o1⟩ => ⟨I1.kIn, ?_⟩) he hpl
  exact run_makeV F M ct I1 r st1 rd o1
end
end Bo

set_option Elab.async false
set_option linter.all false
set_option maxRecDepth 100000
set_option maxHeartbeats 4000000
set_option autoImplicit false
/-! Bo23: raise, try .. except X as n: y = n, exceptions as values, isinstance of them. -/
namespace Bo
open PySem PySem.Spec L2

/-- an own exception class over ValueError without own __init__ -/
structure ExcF (K : PySem.W.Frag) (mg : Str → Option Value) (g : Gx) (c : Nat) (x : Str) : Prop where
  gC : mg x = some (.ref (g.fa c))
  xC : PySem.W.excIn K (g.fa c) He.veBase "ValueError.__new__" = true
  kC : PySem.W.keepIn K (.ref (g.fa c)) = true
  bC : PySem.W.subIn K (.ref (g.fa c)) (.type "BaseException") = some true
  tC : PySem.W.typeIn K (.ref (g.fa c)) = some (.type "type")
def raiS (c : Nat) (fe : Sl → Hc → Res D) : Sl → Hc → RS := fun sl hc => (fe sl hc).toS sl fun _ hc1 => .exc c sl hc1
section
variable {X : Cx} {g : Gx} {W : WX} {c k : Nat} {x : Str} {e : Expr} {fe : Sl → Hc → Res D} {p p2 pos : Pos}
theorem s_raise (F : ExcF X.K X.mg g c x) (ct : Ct X g W k) (he : PE X e (tI g W fe)) (hg : Gl X x := by rfl) (hs : starEach [e] X.env = (false, eval e X.env) :: starEach [] X.env := by rfl) (hdb : (x == ("__debug__" : Str)) = false := by decide) :
    PS X (.Raise (some (.Call (.Name x p) [e] [] p2)) none pos) (sI g W (raiS c fe)) := by
  refine ps_imp (ps_raise ct.calm ct.tk (SkE.pmk_own1 PySem.F.excBase_ValueError F.xC F.gC F.kC (raises_own F.bC F.tC) hg he hs hdb)) fun E σ H ⟨z, sl, hc, hs, st, h⟩ => ?_
  refine tI.mono (OutS.thenE (f := fe) hs st h) fun v H1 ⟨z1, d1, hc1, x1, hs1, st1, r1, o1⟩ => ?_
  exact o1 z1 H1 σ (.refl _ _) hs1 st1
theorem exA_ok {P : Program} {w : World} {H : Hp} {h : Heap} {a : Addr} {cls : Value} {oe : Obj} {vs : Array Value} (e : h.get? a = some oe) (z : Zc cls none oe) (d : oe.data = .fields vs) : ObjOk P w H h a (ExA cls a) :=
  ⟨⟨oe, vs, e, z, d⟩, ⟨oe, e⟩, fun _ _ ⟨o, v, q, r⟩ k => ⟨o, v, k o q, r⟩⟩
/-- X(e) as a value -/
def excE (c : Nat) (fe : Sl → Hc → Res D) : Sl → Hc → Res D := fun sl hc => (fe sl hc).bind fun _ hc1 => .ok (.ex c) hc1
theorem e_exc (F : ExcF X.K X.mg g c x) (he : PE X e (tI g W fe)) (hg : Gl X x := by rfl) (hs : starEach [e] X.env = (false, eval e X.env) :: starEach [] X.env := by rfl) (hdb : (x == ("__debug__" : Str)) = false := by decide) :
    PE X (.Call (.Name x p) [e] [] pos) (tI g W (excE c fe)) := by
  refine ⟨fun pins s σ H Q I ⟨z, sl, hc, hs', st, h⟩ => ?_⟩
  refine wpAny_Call_Name_kw (ld_glob I hg F.gC ?_ hdb)
  refine PySem.W.callWith_K (h₀ := X.base) I.ok.mod.kin F.kC ?_ hs (by rfl)
  rw [hs]
  show wpAny _ _ (spliced ((false, eval e X.env) :: backTo pos (starEach [] X.env))) _ _ s
  refine Calls.spliced_cons (thn (he.run pins s σ H _ I (OutE.thenE (f := fe) hs' st h)) fun u s1 ⟨v, H1, I1, r1, z1, d1, hc1, x1, hs1, st1, rd, o1⟩ => ?_)
  refine Calls.spliced_nil ⟨I1.kIn, ?_⟩
  show wpAny _ _ (call (.ref (g.fa c)) [u]) _ _ _
  obtain ⟨bm, N, nm, qn, bs, hdct, sn, sub, ab, col, dd, k0, k1, k2, k3, k5, mN, hC, hN, hni, T⟩ := exc_obj I1.kIn F.xC
  refine wpAny_call_exc_subT PySem.F.excBase_ValueError T hC hN hni (fun h' a hm => ?_) (by show 1 ≤ sizeLine; rw [sizeLine_eq]; omega)
  have hn : H1 a = none := I1.hok.gone hm.new
  obtain ⟨t, ht, _, _⟩ := hm.there
  obtain ⟨xx, ss⟩ := st1.alloc (o := ExA (.ref (g.fa c)) a) hn
  exact ⟨.ref a, upd H1 a (ExA (.ref (g.fa c)) a), I1.laidN hm.keeps hm.new hn (exA_ok ht ⟨rfl, rfl⟩ rfl), rfl, o1 _ _ _ xx ss (.ex upd_same)⟩
end
/-! ### isinstance of an exception -/
def isXD (tb : Nat → Option Bool) (_ : Hc) : D → Option D
  | .ex c => (tb c).map .bl
  | _ => none
section
variable {X : Cx} {g : Gx} {W : WX} {k : Nat}
theorem call_isA {tb : Nat → Option Bool} {cv : Value} (hK : X.K = g.K) (hT : ∀ c b, tb c = some b → ExcC X.K (g.fa c) ∧ PySem.W.kitOne X.K (.ref (g.fa c)) cv = some b) :
    CallR X (.builtin "isinstance") (fun xs H Q => ∃ x t z hc d r, xs = [x, t] ∧ (∀ u, RelV t u → u = cv) ∧ StR g z H hc ∧ RelD g z d x ∧ isXD tb hc d = some r ∧ ∀ z' H' v, Ext z H z' H' → StR g z' H' hc → RelD g z' r v → Q v H') := by
  intro pins s σ H xs us Q I r h
  obtain ⟨x, t, z, hc, d, rr, rfl, hcv, st, rd, er, q⟩ := h
  cases r with
  | cons rx rs =>
    cases rs with
    | cons rt rs =>
      cases rs
      have ec := hcv _ rt
      subst ec
      cases rd with
      | ex hF =>
        rename_i c a
        obtain ⟨b, eb, rfl⟩ := Option.map_eq_some_iff.mp er
        obtain ⟨C, e⟩ := hT c b eb
        cases rx
        obtain ⟨⟨oe, vs, hget, hz, hv⟩, _, _⟩ := I.hok a _ (st.sub _ _ hF)
        have J : PySem.W.InstAt s.heap a oe (g.fa c) none := by
          obtain ⟨oc, od, oda, osl⟩ := oe
          obtain ⟨h1, h2⟩ := hz
          dsimp only at h1 h2 hv
          subst h1 h2 hv
          exact ⟨hget, rfl, rfl, trivial⟩
        exact PySem.W.kia_one (PySem.W.handS_kitx_exc C.hg C.hk C.hs C.hd C.ha C.hn C.ht C.hm) I.kIn J e (fun z => nomatch z) fun tk => ⟨.bl b, H, I.kept (t' := tk) fun _ _ z => z, rfl, q z H _ (.refl _ _) st (.bl b)⟩
      | _ => cases er
theorem e_isX {a b : Expr} {fa : Sl → Hc → Res D} {p pos : Pos} {tb : Nat → Option Bool} {cv : Value} {tv : V} (c : Ct X g W k) (ha : PE X a (tI g W fa)) (hb : PE X b (tC tv)) (hcv : ∀ u, RelV tv u → u = cv) (hm : X.mg "isinstance" = none)
    (hT : ∀ c b, tb c = some b → ExcC X.K (g.fa c) ∧ PySem.W.kitOne X.K (.ref (g.fa c)) cv = some b) (hg : Gl X "isinstance" := by rfl) (hs : starEach [a, b] X.env = (false, eval a X.env) :: starEach [b] X.env := by rfl) (hs2 : starEach [b] X.env = (false, eval b X.env) :: starEach [] X.env := by rfl) (he : (backTo pos (starEach [b] X.env)).any (·.1) = false := by rfl) :
    PE X (.Call (.Name "isinstance" p) [a, b] [] pos) (tI g W (unE (isXD tb) fa)) := by
  refine pe_imp (pe_callB (call_isA c.hK hT) hg hm (by decide +kernel) (pa_cons ha (pa_cons hb pa_nil hs2) hs) (by decide) (by decide) hs he) fun σ H Q ⟨z, sl, hc, hs, st, h⟩ => ?_
  refine tI.mono (OutE.thenE (f := fa) hs st h) fun v H1 ⟨z1, d1, hc1, x1, hs1, st1, r1, o1⟩ => ?_
  obtain ⟨rr, er, hq⟩ := o1.lift
  exact ⟨v, tv, z1, hc1, d1, rr, rfl, hcv, st1, r1, er, hq⟩
end
/-! ### try .. except x as n: a suite behind which the exception is kept -/
section
variable {X : Cx} {pins : List (Addr × Obj)} {σ : St} {H : Hp} {s : Shared}
theorem Inv.track {a : Addr} {o : Obj} {φ : Heap → Prop} (I : Inv X pins σ H s) (ha : s.heap.get? a = some o) (hn : H a = none) (h0 : X.s_0.heap.get? a = none) (nL : a ≠ X.env.locals) (hcell : ∀ v, o.data ≠ .cell v) (np : ∀ p ∈ X.pn ++ pins, p.1 ≠ a)
    (new : ObjOk X.prog X.w (upd H a (.ext φ)) s.heap a (.ext φ)) : Inv X pins σ (upd H a (.ext φ)) s := by
  have ne : ∀ b u, H b = some u → b ≠ a := fun b u e z => by rw [z, hn] at e; cases e
  refine ⟨I.ok, I.os, I.bare, ⟨I.base.keep, I.base.slot, fun b o e n hx => ?_, I.base.there, fun b xs e => ?_, fun b o u e => ?_, fun b ps e => ?_⟩, I.loc, I.cell, ?_, fun x c e => ?_, fun p hp => ?_, fun b u e => ?_, I.len⟩
  · rw [upd_ne (fun z => by rw [z, h0] at e; cases e)]; exact I.base.free b o e n hx
  · have q := I.base.tups b xs e
    rw [upd_ne (ne b _ q)]; exact q
  · have q := I.base.frzs b o u e
    rw [upd_ne (ne b _ q)]; exact q
  · obtain ⟨m, q⟩ := I.base.tbls b ps e
    exact ⟨m, by rw [upd_ne (ne b _ q)]; exact q⟩
  · rw [upd_ne (Ne.symm nL)]; exact I.free
  · obtain ⟨v, oc, hoc, hd⟩ := I.cell x c e
    rw [upd_ne (fun z => by rw [z, ha] at hoc; cases hoc; exact hcell _ hd)]
    exact I.freeC x c e
  · obtain ⟨e1, e2, e3⟩ := I.pin p hp
    exact ⟨e1, by rw [upd_ne (np p hp)]; exact e2, e3⟩
  · by_cases hb : b = a
    · subst hb; rw [upd_same] at e; cases e; exact new
    · rw [upd_ne hb] at e
      exact (I.hok b u e).stay (fun c v _ q => q) (fun c q => by rw [upd_ne (ne c _ q)]; exact q) fun c xs q => by rw [upd_ne (ne c _ q)]; exact q
end
def wKeep (K : PySem.W.Frag) (len : Nat) (c : Value) (i : Nat) (ts : Addr → TS) (Wout : WX) (D : Ends) : WX := fun cls d σ H =>
  ∃ b, PySem.W.exmOne K cls c = some b ∧ (b = true → d = none ∧ ∀ a, H a = none → σ.length = len → ts a { nx := fun σ' H' => D.nx (σ'.set i none) (upd H' a (ExA cls a)), rt := fun _ _ => False, bk := fun _ _ => False, ct := fun _ _ => False } (σ.set i (some (.ref a))) H) ∧
    (b = false → Wout cls d σ H)
section
variable {X : Cx} {x n : Str} {c : Value} {i : Nat} {body suite : List Stmt} {b₀ : Stmt} {np pos pos' : Pos} {tb : WX → TS} {ts : Addr → TS} {Wout : WX}
theorem ps_try_keep (hs : X.stack = X.env :: X.outer) (hf : X.env.frame = some X.env.locals) (hex : X.ex = []) (hN : X.N.Nodup) (hi : X.N[i]? = some n) (hln : X.env.kindOf n = some .local) (hc : Names X x c) (tk : Takes X Wout)
    (hb : ∀ (W : WX) (pn : List (Addr × Obj)) (xe : Value → Shared → Prop), Takes (X.tr pn xe) W → PassesOwn (model X.prog X.w) X.A X.env xe → PSs (X.tr pn xe) body (tb W))
    (hsu : ∀ (a : Addr) (pn : List (Addr × Obj)), PSs (X.suite a pn) (b₀ :: suite) (ts a)) :
    PS X (.Try body [.ExceptHandler (some (.Name x np)) (some n) (b₀ :: suite) pos'] [] [] pos) (fun D σ H => tb (wKeep X.K X.N.length c i ts Wout D) D σ H) := by
  refine ⟨fun pins s σ H D I h => ?_⟩
  have ok := I.ok
  have hfr : X.A.frames = some (X.env :: X.outer) := by rw [ok.frames, hs]
  have hloc : Loc X.env.scope n := .inl hln
  refine wpAny_Try_except ?_
  refine wpAny_mono ((hb (wKeep X.K X.N.length c i ts Wout D) (X.pn ++ pins) (fun e s₁ => wpAny (model X.prog X.w) X.A (noteFrame e X.env) (fun _ s₂ => wpAny (model X.prog X.w) X.A (setFlight e none) (fun _ s₃ =>
    wpAny (model X.prog X.w) X.A (handleBy e X.env [.ExceptHandler (some (.Name x np)) (some n) (b₀ :: suite) pos']) (SP X pins D) X.xe s₃) X.xe s₂) X.xe s₁) (fun u s' xx => ?_) PassesOwn.looking).run [] s σ H D (I.toTry _) h) (fun f s1 hsp => ?_) (fun e s1 he => he)
  · obtain ⟨a, B, sI, pins', σ', H', cls, d, rfl, J', nb, up, sky, na, os, ag, b, hb1, hyes, hno⟩ := xx
    have J : Inv X pins σ' H' sI := J'.ofTry ok
    have sky' : Sky B (X.env :: X.outer) a (Zc cls d) X.env.locals s'.heap := by rw [← hs]; exact sky
    show wpAny (model X.prog X.w) X.A (noteFrame (.ref a) X.env) _ _ _
    refine Sky.land Zc.steady hfr hf sky' fun h3 fl3 up3 => ?_
    have J3 : Inv X pins σ' H' { s' with heap := h3 } := J.landed nb fl3.1 (up.trans up3) os ag
    obtain ⟨oe3, vs3, he3, hz3, hd3⟩ := fl3.there
    have notFr : ∀ {h : Heap} {o : Obj} {vs : Array Value}, h.FunFrames B (X.env :: X.outer) → h.get? a = some o → o.data = .fields vs → a ∉ frs (X.env :: X.outer) := fun {h o vs} ff e dd hm => by
      obtain ⟨_, o', e', hnf⟩ := ff.mem hm
      rw [e] at e'; cases e'
      exact hnf _ dd
    have nfr := notFr fl3.2.2.1 he3 hd3
    have nL : a ≠ X.env.locals := fun z => nfr (List.mem_filterMap.mpr ⟨X.env, List.mem_cons_self, by rw [hf, z]⟩)
    have nF : a ∉ X.fs := fun hm => by
      obtain ⟨e, he, q⟩ := List.mem_filterMap.mp hm
      exact nfr (List.mem_filterMap.mpr ⟨e, List.mem_cons_of_mem _ he, q⟩)
    have Ba : B.get? a = none := fl3.2.1
    have notIn : ∀ o, sI.heap.get? a ≠ some o := fun o e => by
      have := nb a o e (by rw [hs]; exact nfr)
      rw [Ba] at this; cases this
    have h0 : X.s_0.heap.get? a = none := by
      cases e : X.s_0.heap.get? a with
      | none => rfl
      | some o =>
        obtain ⟨o', e'⟩ := J.base.there a o e (by rw [hex]; exact fun z => nomatch z)
        exact absurd e' (notIn o')
    have npn : ∀ p ∈ X.pn ++ pins, p.1 ≠ a := fun p hp z => by
      obtain ⟨e, _⟩ := J.pin p hp
      rw [z] at e
      exact notIn _ e
    have S3 := J3.suite he3 hd3 na nL nF
    refine wpAny_handleBy_cons (codeAny_handlers_test ?_) (by intro q; cases q)
    have LT : PySem.W.Looks (model X.prog X.w) h3 (typeOf (.ref a)) cls := fun A Q E s k q => wpAny_typeOf_ref (k _ _ he3) (by rw [hz3.1]; exact q)
    have LM := PySem.W.exm_one (M := model X.prog X.w) (J3.kIn) LT hb1
    have test : ∀ {Q : Value → Shared → Prop} {E : Value → Shared → Prop}, Q c { s' with heap := h3 } → wpAny (model X.prog X.w) (X.A.mark (some (.ref a))) (eval (.Name x np) X.env) Q E { s' with heap := h3 } := fun {Q E} q => by
      obtain ⟨hg, hdbg, hm | ⟨hm, hv, hnn⟩⟩ := hc
      · exact ld_glob (X := X.suite a ((a, oe3) :: (X.pn ++ pins))) S3 hg hm q hdbg
      · exact ld_blt (X := X.suite a ((a, oe3) :: (X.pn ++ pins))) S3 hg hm hv q hnn hdbg
    refine test (LM.here ?_)
    cases b with
    | true =>
      obtain ⟨rfl, hy2⟩ := hyes rfl
      refine codeAny_handlers_suite_as ?_
      refine HandSPX.lands_againZ fl3 fun h4 fl4 up4 => ?_
      have J4 : Inv X pins σ' H' { s' with heap := h4 } := J.landed nb fl4.1 ((up.trans up3).trans up4) os ag
      obtain ⟨oe4, vs4, he4, hz4, hd4⟩ := fl4.there
      have S4 := J4.suite he4 hd4 na nL nF
      refine store_ok (X := X.suite a ((a, oe4) :: (X.pn ++ pins))) (v := .ref a) S4 hN hi hloc rfl (fun s5 S5 => ?_) (.inr hln)
      refine wpAny_mono ((hsu a ((a, oe4) :: (X.pn ++ pins))).run [] s5 _ H' _ S5 (hy2 a na J.len)) (fun f s6 hsp => ?_) (fun _ _ z => False.elim z)
      cases f with
      | next =>
        obtain ⟨σ6, H6, S6, q6⟩ := hsp
        obtain ⟨p1, p2, p3, p4, p5⟩ := S6.pin (a, oe4) (List.mem_append_left _ List.mem_cons_self)
        have J6 : Inv X pins σ6 H6 s6 := S6.unsuite ok
        have J7 := Inv.track J6 (φ := fun h => ∃ (oe : Obj) (vs : Array Value), h.get? a = some oe ∧ Zc cls none oe ∧ oe.data = .fields vs) p1 p2 h0 nL p5 npn (exA_ok p1 hz4 hd4)
        exact gone_ok J7 hN hi hln fun s7 J8 => ⟨_, _, J8, q6⟩
      | brk => obtain ⟨_, _, _, q6⟩ := hsp; exact q6.elim
      | cont => obtain ⟨_, _, _, q6⟩ := hsp; exact q6.elim
      | ret u => obtain ⟨_, _, _, _, _, q6⟩ := hsp; exact q6.elim
    | false =>
      show wpAny _ X.A (handleBy (.ref a) X.env []) _ _ _
      refine wpAny_handleBy_nil ?_
      obtain ⟨k1, k2, k3, oe, vs, T, oT, ts', he, hz, hd, h1, hr⟩ := id fl3
      unfold PySem.passOn
      refine wpAny_bind (wpAny_field he hd h1 ?_)
      rw [if_neg (show ¬ ((Value.ref T == Value.none) = true) from by simp)]
      have fin : wpAny (model X.prog X.w) X.A (setFlight (.ref a) X.env.frame) (fun _ s4 => wpAny (model X.prog X.w) X.A (throw (.ref a) : Sem Flow) (SP X pins D) X.xe s4) X.xe { s' with heap := h3 } := by
        rw [hf]
        refine HandSPX.setFlight_upZ fl3 fun h4 hh4 up4 => wpAny_throw (tk _ _ ?_)
        exact ⟨a, B, sI, pins, σ', H', cls, d, rfl, J, nb, (up.trans up3).trans up4, .inr (.inr (by rw [hs]; exact hh4)), na, os, ag, hno rfl⟩
      first
        | exact wpAny_bind (wpAny_pure (wpAny_bind fin))
        | exact wpAny_bind fin
  · cases f with
    | next =>
      obtain ⟨σ', H', J', q⟩ := hsp
      exact wpAny_execs_nil ⟨σ', H', J'.ofTry ok, q⟩
    | brk =>
      obtain ⟨σ', H', J', q⟩ := hsp
      exact ⟨σ', H', J'.ofTry ok, q⟩
    | cont =>
      obtain ⟨σ', H', J', q⟩ := hsp
      exact ⟨σ', H', J'.ofTry ok, q⟩
    | ret u =>
      obtain ⟨v, σ', H', J', r, q⟩ := hsp
      exact ⟨v, σ', H', J'.ofTry ok, r, q⟩
end
/-- try: fb / except x as n (slot i): y (slot j) = n -/
def tryS (ck : Nat → Option Bool) (i j : Nat) (fb : Sl → Hc → RS) : Sl → Hc → RS := fun sl hc => match fb sl hc with
  | .exc c sl' hc' => (match ck c with
    | some true => .nx (((sl'.set i none).set j (some (.ex c))).set i none) hc'
    | some false => .exc c sl' hc'
    | none => .bad)
  | r => r
section
variable {X : Cx} {g : Gx} {W : WX} {k c0 : Nat} {ck : Nat → Option Bool} {x n y : Str} {body : List Stmt} {fb : Sl → Hc → RS} {np yp np2 ap pos pos' : Pos}
theorem Ct.tr (c : Ct X g W k) {W' : WX} {pn : List (Addr × Obj)} {xe : Value → Shared → Prop} (tk : Takes (X.tr pn xe) W') : Ct (X.tr pn xe) g W' k := ⟨c.hK, tk, c.calm, c.room, c.guards⟩
theorem s_try (i j : Nat) (ct : Ct X g W k) (hs : X.stack = X.env :: X.outer) (hf : X.env.frame = some X.env.locals) (hex : X.ex = []) (hN : X.N.Nodup) (hgC : X.mg x = some (.ref (g.fa c0))) (hck : ∀ c b, ck c = some b → PySem.W.exmOne X.K (.ref (g.fa c)) (.ref (g.fa c0)) = some b)
    (hb : ∀ (W' : WX) (pn : List (Addr × Obj)) (xe : Value → Shared → Prop), Ct (X.tr pn xe) g W' k → PassesOwn (model X.prog X.w) (X.tr pn xe).A (X.tr pn xe).env (X.tr pn xe).xe → PSs (X.tr pn xe) body (sI g W' fb))
    (hi : X.N[i]? = some n := by rfl) (hj : X.N[j]? = some y := by rfl) (hln : X.env.kindOf n = some .local := by rfl) (hly : Loc X.env.scope y := by first | exact Or.inl rfl | exact Or.inr rfl)
    (hg : Gl X x := by rfl) (hdb : (x == ("__debug__" : Str)) = false := by decide) (hd : (n == ("__debug__" : Str)) = false := by decide) (hcd : (n == ("__classdict__" : Str)) = false := by decide)
    (hw : ∀ a pn, swapsWith (.Name n np2) (some (.Name y yp)) ap.line (X.suite a pn).env = pure false := by intros; rfl) (hff : X.fn y = true ∨ X.env.scope.names.lookup y = some .local := by first | exact .inl rfl | exact .inr rfl | assumption) :
    PS X (.Try body [.ExceptHandler (some (.Name x np)) (some n) [.Assign [.Name y yp] (.Name n np2) ap] pos'] [] [] pos) (sI g W (tryS ck i j fb)) := by
  refine ps_imp (ps_try_keep (i := i) (c := .ref (g.fa c0)) (ts := fun a => tAsg (tVar i) (gName j)) (Wout := W) (tb := fun W' => sI g W' fb) hs hf hex hN hi hln ⟨hg, hdb, .inl hgC⟩ ct.tk (fun W' pn xe tk po => hb W' pn xe (ct.tr tk) po)
    (fun a pn => pss_one (ps_set (X := X.suite a pn) hN hj hly (pe_var (X := X.suite a pn) hi (.inl hln) hd hcd) (hw a pn) hff))) fun E σ H ⟨z, sl, hc, hsv, st, h⟩ => ?_
  refine ⟨z, sl, hc, hsv, st, ?_⟩
  unfold tryS at h
  cases e : fb sl hc with
  | exc c sl' hc' =>
    rw [e] at h
    intro z' H' σ' x' hs' st'
    dsimp only at h
    cases q : ck c with
    | none => rw [q] at h; exact h.elim
    | some b =>
      rw [q] at h
      cases b with
      | true =>
        refine ⟨true, hck c true q, fun _ => ⟨rfl, fun a ha hl => ?_⟩, fun z => nomatch z⟩
        obtain ⟨xx, ss⟩ := st'.alloc (o := ExA (.ref (g.fa c)) a) ha
        have il : i < σ'.length := by rw [hl]; exact (List.getElem?_eq_some_iff.mp hi).1
        have v1 := (hs'.ext xx).none i (some (.ref a))
        have v2 := (v1.set (RelD.ex (g := g) (show upd z'.F a _ a = _ from upd_same)) j).none i none
        exact ⟨.ref a, List.getElem?_set_self il, h _ _ _ (x'.trans xx) v2 ss⟩
      | false => exact ⟨false, hck c false q, (fun z => nomatch z), fun _ => h z' H' σ' x' hs' st'⟩
  | rt d hc' => rw [e] at h; exact h
  | nx sl' hc' => rw [e] at h; exact h
  | bk sl' hc' => rw [e] at h; exact h
  | ct sl' hc' => rw [e] at h; exact h
  | bad => rw [e] at h; exact h
end
end Bo

set_option Elab.async false
set_option linter.all false
set_option maxRecDepth 100000
set_option maxHeartbeats 4000000
set_option autoImplicit false
/-! Bo24: dict comprehensions, defs as values, x += e, starred items, repeats. -/
namespace Bo
open PySem PySem.Spec L2

/-! ### {k: v for ..}, keys ints and texts -/
def keyOf : D → Option Key
  | .int i => some (.inl i)
  | .str x => some (.inr x)
  | _ => none
def putKD (kvs : List (Key × D)) (k : Key) (v : D) : List (Key × D) :=
  if (kvs.any fun kv => decide (kv.1 = k)) = true then kvs.map (fun kv => if kv.1 = k then (kv.1, v) else kv) else kvs ++ [(k, v)]
def KR (g : Gx) (z : Fz) (a : List (Key × D)) (w : List (Key × V)) : Prop := Paired (fun (p : Key × D) (q : Key × V) => p.1 = q.1 ∧ RelD g z p.2 q.2) a w
theorem KR.mono {g : Gx} {z z' : Fz} (l : FLe z z') : ∀ {a : List (Key × D)} {w : List (Key × V)}, KR g z a w → KR g z' a w
  | _, _, .nil => .nil
  | _, _, .cons h t => .cons ⟨h.1, h.2.mono l⟩ (KR.mono l t)
theorem KR.any {g : Gx} {z : Fz} {k : Key} : ∀ {a : List (Key × D)} {w : List (Key × V)}, KR g z a w → (a.any fun kv => decide (kv.1 = k)) = w.any fun kv => decide (kv.1 = k)
  | _, _, .nil => rfl
  | _, _, .cons h t => by simp only [List.any_cons, h.1, KR.any t]
theorem KR.repl {g : Gx} {z : Fz} {k : Key} {d : D} {v : V} (r : RelD g z d v) : ∀ {a : List (Key × D)} {w : List (Key × V)}, KR g z a w → KR g z (a.map fun kv => if kv.1 = k then (kv.1, d) else kv) (w.map fun kv => if kv.1 = k then (kv.1, v) else kv)
  | _, _, .nil => .nil
  | p :: _, q :: _, .cons h t => by
    refine .cons ?_ (KR.repl r t)
    by_cases e : q.1 = k
    · have e' : p.1 = k := h.1.trans e
      simp only [if_pos e, if_pos e']; exact ⟨h.1, r⟩
    · have e' : ¬ p.1 = k := fun z => e (h.1.symm.trans z)
      simp only [if_neg e, if_neg e']; exact h
theorem KR.append {g : Gx} {z : Fz} : ∀ {a b : List (Key × D)} {w u : List (Key × V)}, KR g z a w → KR g z b u → KR g z (a ++ b) (w ++ u)
  | _, _, _, _, .nil, s => s
  | _, _, _, _, .cons h t, s => .cons h (KR.append t s)
theorem KR.put {g : Gx} {z : Fz} {k : Key} {d : D} {v : V} {a : List (Key × D)} {w : List (Key × V)} (h : KR g z a w) (r : RelD g z d v) : KR g z (putKD a k d) (putK w k v) := by
  unfold putKD putK
  rw [h.any (k := k)]
  by_cases e : (w.any fun kv => decide (kv.1 = k)) = true
  · rw [if_pos e, if_pos e]; exact h.repl r
  · rw [if_neg e, if_neg e]; exact h.append (.cons ⟨rfl, r⟩ .nil)
theorem KR.length {g : Gx} {z : Fz} {a : List (Key × D)} {w : List (Key × V)} (h : KR g z a w) : a.length = w.length := Paired.length h
theorem KR.rel {g : Gx} {z : Fz} {D0 : Addr} : ∀ {a : List (Key × D)} {w : List (Key × V)}, KR g z a w → ∃ xs, w = (a.map (·.1)).zip xs ∧ (a.map (·.1)).length = (a.map (·.2)).length ∧ RelDs g z (a.map (·.2)) xs
  | _, _, .nil => ⟨[], rfl, rfl, .nil⟩
  | p :: _, q :: _, .cons h t => by
    obtain ⟨xs, e1, e2, e3⟩ := KR.rel (D0 := D0) t
    refine ⟨q.2 :: xs, ?_, by simp, .cons h.2 e3⟩
    rw [List.map_cons, List.zip_cons_cons, e1, h.1]
def mapD (ft : D → Sl → Option Sl) (tt : Sl → Hc → Res Bool) (fk fv : Sl → Hc → Res D) (sl : Sl) : List D → List (Key × D) → Hc → Res (List (Key × D))
  | [], acc, hc => .ok acc hc
  | d :: ds, acc, hc => match ft d sl with
    | none => .bad
    | some sl1 => (tt sl1 hc).bind fun b hc1 => if b then (fk sl1 hc1).bind fun y hc2 => (fv sl1 hc2).bind fun x hc3 => (match keyOf y with
        | some k => if acc.length < sizeLine then mapD ft tt fk fv sl ds (putKD acc k x) hc3 else .bad
        | none => .bad) else mapD ft tt fk fv sl ds acc hc1
def dcE (vs : List Nat) (ft : D → Sl → Option Sl) (fi : Sl → Hc → Res (List D)) (tt : Sl → Hc → Res Bool) (fk fv : Sl → Hc → Res D) : Sl → Hc → Res D := fun sl hc => (fi sl hc).bind fun ds hc1 => match mapD ft tt fk fv (wipeS sl vs) ds [] hc1 with
  | .ok kvs hc2 => .ok (.dct (kvs.map (·.1)) (kvs.map (·.2))) hc2
  | _ => .bad
theorem dc_it {J : It} {n : Nat} {G : Hp → Prop} {Y : Nat → Hp → V → Hp → Prop} (w : Walk J n G Y) {g : TG} {tt : TT} {tk tv : TE} {vs : List Nat} {σ : St} {H1 : Hp} {D : Addr} {Qd : Hp → Prop} (Pv : Nat → Hp → Prop) (h0 : Pv 0 (upd H1 D (.dK []))) (hG : ∀ i H, i ≤ n → Pv i H → G H)
    (hs : ∀ i x H H', i < n → Pv i H → Y i H x H' → g x (wipe σ vs) H' fun σ2 H2 => wipe σ2 vs = wipe σ vs ∧ tt σ2 H2 fun b H3 =>
      if b = true then tk σ2 H3 fun y H4 => tv σ2 H4 fun z H5 => ∃ kvs k, y = kV k ∧ H5 D = some (.dK kvs) ∧ kvs.length < sizeLine ∧ Pv (i + 1) (upd H5 D (.dK (putK kvs k z))) else Pv (i + 1) H3) (hd : ∀ H, Pv n H → Qd H) :
    ∃ W : Nat → Nat → Hp → Prop, (∃ m, W 0 m (upd H1 D (.dK []))) ∧ ∀ i m H, W i m H →
      (J.stop i H ∧ Qd H) ∨ (J.go i H ∧ ∃ Nx : Hp → Prop, (∀ H', Nx H' → ∃ m', m' < m ∧ W (i + 1) m' H') ∧ ∀ x H', J.yld i H x H' → g x (wipe σ vs) H' fun σ2 H2 => wipe σ2 vs = wipe σ vs ∧ tt σ2 H2 fun b H3 =>
        if b = true then tk σ2 H3 fun y H4 => tv σ2 H4 fun z H5 => ∃ kvs k, y = kV k ∧ H5 D = some (.dK kvs) ∧ kvs.length < sizeLine ∧ Nx (upd H5 D (.dK (putK kvs k z))) else Nx H3) := by
  refine ⟨fun i m H => m = n - i ∧ i ≤ n ∧ Pv i H, ⟨n, by simp, Nat.zero_le _, h0⟩, ?_⟩
  rintro i m H ⟨rfl, hi, p⟩
  have q := hG i H hi p
  by_cases hlt : i < n
  · refine .inr ⟨w.goes i H hlt q, Pv (i + 1), fun H' p' => ⟨n - (i + 1), by omega, rfl, hlt, p'⟩, fun x H' y => hs i x H H' hlt p (w.yields i H x H' hlt q y)⟩
  · have e : i = n := by omega
    subst e
    exact .inl ⟨w.stops H q, hd H p⟩
theorem keyOf_rel {g : Gx} {z : Fz} {d : D} {v : V} {k : Key} (r : RelD g z d v) (e : keyOf d = some k) : v = kV k := by
  cases r with
  | int i => cases e; rfl
  | str x => cases e; rfl
  | _ => cases e
section
variable {X : Cx} {g : Gx} {W : WX} {kk : Nat}
theorem read_dc {vs : List Nat} {ft : D → Sl → Option Sl} {fi : Sl → Hc → Res (List D)} {tt : Sl → Hc → Res Bool} {fk fv : Sl → Hc → Res D} {σ : St} {H : Hp} {Q : VK} (h : tI g W (dcE vs ft fi tt fk fv) σ H Q) :
    tDc (iI g W fi) (gI g vs ft) (bI g W0 tt) (tI g W0 fk) (tI g W0 fv) vs σ H Q := by
  obtain ⟨z, sl, hc, hs, s, h⟩ := h
  refine ⟨z, sl, hc, hs, s, ?_⟩
  unfold dcE at h
  revert h
  cases fi sl hc with
  | bad => exact fun h => h
  | exc c hc1 => exact fun h => h
  | ok ds hc1 =>
    intro h z1 H1 x1 hs1 st1 J G Y w hG hY D hD
    simp only [Res.bind] at h
    cases e : mapD ft tt fk fv (wipeS sl vs) ds [] hc1 with
    | bad => rw [e] at h; exact h.elim
    | exc c hc2 => rw [e] at h; exact h.elim
    | ok kvs hcE =>
      rw [e] at h
      simp only at h
      have apD : Apart z1 D := StR.apart (H := H1) (by rw [del_none hD]; exact st1)
      refine dc_it w (fun i H' => ∃ z' hc' acc ws, H' D = some (.dK ws) ∧ KR g z' acc ws ∧ Ext z1 H1 z' (del H' D) ∧ StR g z' (del H' D) hc' ∧ Apart z' D ∧ mapD ft tt fk fv (wipeS sl vs) (ds.drop i) acc hc' = .ok kvs hcE) ?_ ?_ ?_ ?_
      · refine ⟨z1, hc1, [], [], upd_same, .nil, ?_, ?_, apD, e⟩
        · rw [del_of_upd, del_none hD]; exact .refl _ _
        · rw [del_of_upd, del_none hD]; exact st1
      · rintro i H' hi ⟨z', hc', acc, ws, h1, h2, h3, h4, h5, h6⟩
        exact hG z' H' hc' h3.fill h4.fill
      · rintro i x H' H2 hi ⟨z', hc', acc, ws, h1, h2, h3, h4, h5, h6⟩ y
        obtain ⟨z2, d, x2, s2, hd, rd⟩ := hY i H' x H2 z' hc' hi h3.fill h4.fill y
        obtain ⟨k2, a2, D2⟩ := x2.hole h1 h5
        have ed : ds.drop i = d :: ds.drop (i + 1) := by
          rw [List.drop_eq_getElem_cons hi]
          rw [List.getElem?_eq_getElem hi] at hd
          cases hd
          rfl
        rw [ed] at h6
        unfold mapD at h6
        cases e1 : ft d (wipeS sl vs) with
        | none => rw [e1] at h6; cases h6
        | some sl1 =>
          rw [e1] at h6
          have svw := ((hs1.ext (h3.fill)).ext x2).wipe vs
          refine ⟨z2, wipeS sl vs, hc', d, sl1, svw, s2, rd, e1, fun σ2 sv2 w2 => ⟨w2.trans wipe_wipe, z2, sl1, hc', sv2, s2, ?_⟩⟩
          simp only at h6
          revert h6
          cases tt sl1 hc' with
          | bad => exact fun h => nomatch h
          | exc c hcb => exact fun h => nomatch h
          | ok b hcb =>
            intro h6 z3 H3 x3 s3
            obtain ⟨k3, a3, D3⟩ := x3.hole D2 a2
            cases b with
            | false =>
              simp only [Bool.false_eq_true, if_false]
              simp only [Res.bind, Bool.false_eq_true, if_false] at h6
              exact ⟨z3, hcb, acc, ws, D3, (h2.mono x2.le).mono x3.le, h3.trans (k2.trans k3), s3.hole a3, a3, h6⟩
            | true =>
              simp only [if_true]
              simp only [Res.bind, if_true] at h6
              refine ⟨z3, sl1, hcb, sv2.ext x3, s3, ?_⟩
              revert h6
              cases fk sl1 hcb with
              | bad => exact fun h => nomatch h
              | exc c hcb => exact fun h => nomatch h
              | ok yd hcy =>
                intro h6 z4 H4 v x4 s4 r4
                obtain ⟨k4, a4, D4⟩ := x4.hole D3 a3
                simp only at h6
                refine ⟨z4, sl1, hcy, (sv2.ext x3).ext x4, s4, ?_⟩
                revert h6
                cases fv sl1 hcy with
                | bad => exact fun h => nomatch h
                | exc c hcb => exact fun h => nomatch h
                | ok xd hcx =>
                  intro h6 z5 H5 u x5 s5 r5
                  obtain ⟨k5, a5, D5⟩ := x5.hole D4 a4
                  simp only at h6
                  cases ek : keyOf yd with
                  | none => rw [ek] at h6; cases h6
                  | some k =>
                    rw [ek] at h6
                    simp only at h6
                    split at h6
                    · rename_i hlen
                      have hk := keyOf_rel r4 ek
                      have h2' := (((h2.mono x2.le).mono x3.le).mono x4.le).mono x5.le
                      refine ⟨ws, k, hk, D5, by rw [← h2'.length]; exact hlen, z5, hcx, putKD acc k xd, putK ws k u, upd_same, h2'.put r5, ?_, ?_, a5, h6⟩
                      · rw [del_of_upd]; exact h3.trans (k2.trans (k3.trans (k4.trans k5)))
                      · rw [del_of_upd]; exact s5.hole a5
                    · cases h6
      · rintro H' ⟨z', hc', acc, ws, h1, h2, h3, h4, h5, h6⟩
        rw [List.drop_length] at h6
        cases h6
        obtain ⟨x2, s2⟩ := h4.alloc (o := .dK ws) (p := D) del_same
        have eH : upd (del H' D) D (.dK ws) = H' := by
          rw [del_upd]
          funext a
          by_cases ea : a = D
          · subst ea; rw [upd_same, h1]
          · rw [upd_ne ea]
        rw [eH] at x2 s2
        obtain ⟨xs, e1, e2, e3⟩ := KR.rel (D0 := D) (h2.mono x2.le)
        exact h _ _ _ (x1.trans (h3.trans x2)) s2 (.dct (by show upd z'.F D _ D = _; rw [upd_same, e1]) e2 e3)
theorem e_dc {kx vx tg iter : Expr} {ifs : List Expr} {scope : Scope} {pos : Pos} {ft : D → Sl → Option Sl} {fi : Sl → Hc → Res (List D)} {tt : Sl → Hc → Res Bool} {fk fv : Sl → Hc → Res D} (own : List (Str × Nat)) (c : Ct X g W kk) (hN : X.N.Nodup) (hi : PI X tg iter (iI g W fi))
    (ok : blkC X.N X.env.scope scope own = true)
    (hg : ∀ (s : Shared) (H : Hp) (C : Addr) (cl : List (Str × Addr)) (fp : List Addr), PG (X.blk s H scope (compEnvC scope cl C X.env) fp) tg (gI g (own.map (·.2)) ft))
    (ht : ∀ (s : Shared) (H : Hp) (C : Addr) (cl : List (Str × Addr)) (fp : List Addr), PTs (X.blk s H scope (compEnvC scope cl C X.env) fp) ifs (bI g W0 tt))
    (hk : ∀ (s : Shared) (H : Hp) (C : Addr) (cl : List (Str × Addr)) (fp : List Addr), PE (X.blk s H scope (compEnvC scope cl C X.env) fp) kx (tI g W0 fk))
    (he : ∀ (s : Shared) (H : Hp) (C : Addr) (cl : List (Str × Addr)) (fp : List Addr), PE (X.blk s H scope (compEnvC scope cl C X.env) fp) vx (tI g W0 fv)) (hs : ∀ x, foldedSetIterable iter X.env x = pure x := by intro _; rfl) :
    PE X (.DictComp kx vx [⟨tg, iter, ifs, 0⟩] scope pos) (tI g W (dcE (own.map (·.2)) ft fi tt fk fv)) :=
  pe_imp (pe_dc (own := own) c.calm hN hi (blkOk_by ok) hg ht hk he hs) fun _ _ _ => read_dc
end
/-- len, of a dict, too -/
def lenX (hc : Hc) (ds : List D) : Option D := match ds with
  | [.dct ks _] => some (.int ks.length)
  | ds => lenD hc ds
theorem b_lenX {X : Cx} {g : Gx} {W : WX} {k : Nat} (c : Ct X g W k) : CallR X (.builtin "len") (rA g lenX) := by
  intro pins s σ H xs us Q I r h
  obtain ⟨z, hc, ds, rr, st, rd, er, q⟩ := h
  have other : lenD hc ds = some rr → wpAny (model X.prog X.w) X.A (call (.builtin "len") us) (EP X pins σ Q) X.xe s := fun e => b_len c pins s σ H xs us Q I r ⟨z, hc, ds, rr, st, rd, e, q⟩
  cases rd with
  | nil => exact other er
  | cons h t =>
    cases t with
    | cons _ _ => exact other (by cases h <;> exact er)
    | nil =>
      cases h with
      | dct hF hl hr =>
        rename_i a ks xs ds
        cases er
        refine call_lenD pins s σ H _ us Q I r ⟨a, ks.zip xs, rfl, st.sub _ _ hF, ?_⟩
        have e : (ks.zip xs).length = ks.length := by rw [List.length_zip, hl, hr.length]; simp
        rw [e]
        exact q z H _ (.refl _ _) st (.int _)
      | _ => exact other er
/-! ### defs as values, and their calls -/
theorem e_gfn {X : Cx} {g : Gx} {W : WX} {x : Str} {pos : Pos} (i : Nat) (hm : X.mg x = some (.ref (g.fa i))) (hg : Gl X x := by rfl) (hd : (x == ("__debug__" : Str)) = false := by decide) : PE X (.Name x pos) (tI g W (cE (.fn i))) :=
  e_gcs (v := .ref (g.fa i)) hm rfl (fun _ => .fn i) hg hd
def clE (i : Nat) (dsp : Nat → Option (List D → Hc → Res D)) (fs : Sl → Hc → Res (List D)) : Sl → Hc → Res D := fun sl hc => match sl[i]? with
  | some (some (.fn j)) => (match dsp j with
    | some cl => (fs sl hc).bind cl
    | none => .bad)
  | _ => .bad
theorem e_callL {X : Cx} {g : Gx} {W : WX} {k : Nat} {x : Str} {e : Expr} {es : List Expr} {fs : Sl → Hc → Res (List D)} {dsp : Nat → Option (List D → Hc → Res D)} {p pos : Pos} (i : Nat) (ct : Ct X g W k)
    (F : ∀ j cl, dsp j = some cl → FnV X.prog X.w X.K X.mg X.base g k (g.fa j) cl ∧ PySem.W.keepIn X.K (.ref (g.fa j)) = true) (ha : PA X (e :: es) (aI g W fs)) (hN : X.N[i]? = some x := by rfl) (hv : Vis X.env.scope x := by first | exact Or.inl rfl | exact Or.inr (Or.inl rfl) | exact Or.inr (Or.inr rfl))
    (hdb : (x == ("__debug__" : Str)) = false := by decide) (hcd : (x == ("__classdict__" : Str)) = false := by decide)
    (he : starEach (e :: es) X.env = (false, eval e X.env) :: starEach es X.env := by rfl) (hpl : (backTo pos (starEach es X.env)).any (·.1) = false := by rfl) : PE X (.Call (.Name x p) (e :: es) [] pos) (tI g W (clE i dsp fs)) := by
  refine ⟨fun pins s σ H Q I ⟨z, sl, hc, hs, st, h⟩ => ?_⟩
  unfold clE at h
  cases e1 : sl[i]? with
  | none => rw [e1] at h; exact h.elim
  | some o =>
    cases o with
    | none => rw [e1] at h; exact h.elim
    | some d =>
      cases d with
      | fn j =>
        rw [e1] at h
        simp only at h
        cases e2 : dsp j with
        | none => rw [e2] at h; exact h.elim
        | some cl =>
          rw [e2] at h
          simp only at h
          obtain ⟨FV, hk⟩ := F j cl e2
          obtain ⟨v, h1, h2⟩ := hs.val i _ e1
          cases h2
          refine wpAny_Call_Name_kw (thn ((pe_var (pos := p) hN hv hdb hcd).run pins s σ H (fun v H1 => v = .ref (g.fa j) ∧ H1 = H) I ⟨.ref (g.fa j), h1, rfl, rfl⟩) fun u s1 ⟨v, H1, I1, r1, q1⟩ => ?_)
          obtain ⟨rfl, rfl⟩ := q1
          cases r1
          refine PySem.W.callWith_K (h₀ := X.base) I.ok.mod.kin hk (thn (ha.run pos pins s1 σ _ _ I1 (OutE.thenA (f := fs) hs st h)) fun us s2 ⟨vs, H2, I2, r, z2, ds, hc2, x2, hs2, st2, rd, o2⟩ => ⟨I2.kIn, ?_⟩) he hpl
          exact run_fnV FV ct I2 r st2 rd o2
      | _ => rw [e1] at h; exact h.elim
/-! ### x op= e, ints -/
def augS (i : Nat) (op : Int → Int → Int) (fe : Sl → Hc → Res D) : Sl → Hc → RS := fun sl hc => match sl[i]? with
  | some (some (.int a)) => (fe sl hc).toS sl fun d hc1 => (match d with
    | .int b => .nx (sl.set i (some (.int (op a b)))) hc1
    | _ => .bad)
  | _ => .bad
theorem s_aug {X : Cx} {g : Gx} {W : WX} {x : Str} {e : Expr} {fe : Sl → Hc → Res D} {o : Operator} {op : Int → Int → Int} {p2 pos : Pos} (i : Nat) (hN : X.N.Nodup) (ho : PIp X o (ipI op)) (he : PE X e (tI g W fe)) (hi : X.N[i]? = some x := by rfl) (hx : Loc X.env.scope x := by first | exact Or.inl rfl | exact Or.inr rfl)
    (hf : X.fn x = true ∨ X.env.scope.names.lookup x = some .local := by first | exact .inl rfl | exact .inr rfl | assumption) : PS X (.AugAssign (.Name x p2) o e pos) (sI g W (augS i op fe)) := by
  refine ps_imp (ps_aug hN hi hx he ho hf) fun E σ H ⟨z, sl, hc, hs, st, h⟩ => ?_
  unfold augS at h
  cases e1 : sl[i]? with
  | none => rw [e1] at h; exact h.elim
  | some o =>
    cases o with
    | none => rw [e1] at h; exact h.elim
    | some d =>
      cases d with
      | int a =>
        rw [e1] at h
        simp only at h
        obtain ⟨v, h1, h2⟩ := hs.val i _ e1
        cases h2
        refine ⟨.int a, h1, ?_⟩
        refine tI.mono (OutS.thenE (f := fe) hs st h) fun v2 H2 ⟨z2, d2, hc2, x2, hs2, st2, r2, o2⟩ => ?_
        cases r2 with
        | int b => exact ⟨a, b, rfl, rfl, o2 z2 H2 _ (.refl _ _) (hs2.set (.int _) i) st2⟩
        | _ => exact o2.elim
      | _ => rw [e1] at h; exact h.elim
/-! ### *e among items -/
def seqD (hc : Hc) : D → Option (List D)
  | .tup ds => some ds
  | d => hc.lst? d
def sA (fa : Sl → Hc → Res D) (fr : Sl → Hc → Res (List D)) : Sl → Hc → Res (List D) := fun sl hc => (fa sl hc).bind fun d hc1 => match seqD hc1 d with
  | some xs => (fr sl hc1).bind fun ds hc2 => .ok (xs ++ ds) hc2
  | none => .bad
theorem a_star {X : Cx} {g : Gx} {W : WX} {k : Nat} {e : Expr} {es : List Expr} {fa : Sl → Hc → Res D} {fs : Sl → Hc → Res (List D)} {p : Pos} (c : Ct X g W k) (ha : PE X e (tI g W fa)) (hr : PA X es (aI g W fs)) (hs : starEach (.Starred e p :: es) X.env = (true, eval e X.env) :: starEach es X.env := by rfl) :
    PA X (.Starred e p :: es) (aI g W (sA fa fs)) := by
  refine pa_imp (StX.pa_star ha hr hs) fun σ H Q ⟨z, sl, hc, hs, st, h⟩ => ?_
  refine tI.mono (OutA.thenE (f := fa) hs st h) fun v H1 ⟨z1, d1, hc1, x1, hs1, st1, r1, o1⟩ => ?_
  have fin : ∀ (a : Addr) (xs : List V) (ds : List D), v = .ref a → (SqT X.K H1 a xs ∨ SqL X.K H1 a xs) → RelDs g z1 ds xs → seqD hc1 d1 = some ds → ∃ p xs, v = V.ref p ∧ (SqT X.K H1 p xs ∨ SqL X.K H1 p xs) ∧ aI g W fs σ H1 fun ys H2 => Q (xs ++ ys) H2 := fun a xs ds ev hq rl es => by
    rw [es] at o1
    refine ⟨a, xs, ev, hq, aI.mono (OutA.thenA (f := fs) hs1 st1 o1) fun ws H2 ⟨z2, d2, hc2, x2, hs2, st2, r2, o2⟩ => ?_⟩
    exact o2 z2 H2 _ (.refl _ _) st2 ((rl.mono x2.le).append r2)
  cases e : seqD hc1 d1 with
  | none => rw [e] at o1; exact o1.elim
  | some ds =>
    cases d1 with
    | tup es =>
      cases e
      obtain ⟨a, xs, rfl, hq, rl⟩ := st1.tuple r1
      exact fin a xs _ rfl (.inl (by rw [c.hK]; exact hq)) rl rfl
    | _ =>
      have q0 := fun h => st1.list (ds := ds) h r1
      obtain ⟨a, xs, rfl, hq, rl⟩ := q0 e
      exact fin a xs _ rfl (.inr (by rw [c.hK]; exact hq)) rl e
/-! ### sequences repeated -/
theorem RelDs.rep {g : Gx} {z : Fz} {ds : List D} {xs : List V} (r : RelDs g z ds xs) : ∀ n : Nat, RelDs g z (List.replicate n ds).flatten (List.replicate n xs).flatten
  | 0 => .nil
  | n + 1 => by rw [List.replicate_succ, List.replicate_succ, List.flatten_cons, List.flatten_cons]; exact r.append (RelDs.rep r n)
/-- a text repeated -/
def mulT (hc : Hc) (d e : D) : Option D := match d, e with
  | .str x, .int n => if decide (2 ≤ n) && (decide (n ≤ 100000) && (decide (1 ≤ x.length) && decide (x.length ≤ 100))) then some (.str ⟨⟨(List.replicate n.toNat x.cps.toList).flatten⟩⟩) else mulX hc (.str x) (.int n)
  | d, e => mulX hc d e
theorem fold_rep (a : Array Nat) : ∀ (n : Nat) (acc : Array Nat), (List.replicate n a).foldl (· ++ ·) acc = ⟨acc.toList ++ (List.replicate n a.toList).flatten⟩
  | 0, acc => by simp
  | n + 1, acc => by
    rw [List.replicate_succ, List.foldl_cons, fold_rep a n (acc ++ a), List.replicate_succ, List.flatten_cons]
    simp
theorem o_mulT {X : Cx} {g : Gx} : OpR X (binaryOp .Mult) (rP g mulT) := by
  intro pins s σ H x y v u Q I rx ry ⟨z, hc, d, e, r, st, r1, r2, er, q⟩
  have other : mulX hc d e = some r → wpAny (model X.prog X.w) X.A (binaryOp .Mult v u) (EP X pins σ Q) X.xe s := fun e' => o_mulX pins s σ H x y v u Q I rx ry ⟨z, hc, d, e, r, st, r1, r2, e', q⟩
  cases r1 with
  | str t =>
    cases r2 with
    | int n =>
      simp only [mulT] at er
      split at er
      · rename_i hh
        simp only [Bool.and_eq_true, decide_eq_true_eq] at hh
        obtain ⟨h1, h2, h3, h4⟩ := hh
        cases er
        obtain ⟨tk, rfl⟩ := rx
        obtain ⟨tk2, rfl⟩ := ry
        have hl : t.length * n.toNat ≤ 100 * 100000 := Nat.mul_le_mul h4 (by omega)
        refine P.mul_str (by simp; omega) (fun _ _ => ?_) (fun _ _ => ?_) ?_
        · have : (100 : Int) ≤ (2 ^ 63 - 1) / n := by
            rw [Int.le_ediv_iff_mul_le (by omega)]
            omega
          omega
        · show decide (t.length * n.toNat > sizeLine) = false
          rw [sizeLine_eq]
          exact decide_eq_false (by omega)
        · rw [if_neg (by omega), if_neg (by simp; omega), fold_rep]
          refine ⟨?_, ⟨.str _, H, I.tok _, ⟨_, rfl⟩, ?_⟩⟩
          · show _ ≤ sizeLine
            rw [sizeLine_eq]
            have e1 : (List.replicate n.toNat t.cps.toList).flatten.length = n.toNat * t.cps.toList.length := by simp [List.length_flatten]
            have e2 : (⟨⟨(#[] : Array Nat).toList ++ (List.replicate n.toNat t.cps.toList).flatten⟩⟩ : Str).length = n.toNat * t.length := by
              show (⟨(#[] : Array Nat).toList ++ (List.replicate n.toNat t.cps.toList).flatten⟩ : Array Nat).size = _
              rw [List.size_toArray, List.length_append, e1]
              simp [Str.length]
            rw [e2, Nat.mul_comm]
            omega
          · have e0 : (#[] : Array Nat).toList ++ (List.replicate n.toNat t.cps.toList).flatten = (List.replicate n.toNat t.cps.toList).flatten := by simp
            rw [e0]
            exact plain st q (.str _)
      · exact other er
    | _ => exact other er
  | _ => exact other (by first | exact er | (cases r2 <;> exact er))
def repD (hc : Hc) : D → D → Option D
  | .tup ds, .int k => if !ds.isEmpty && (decide (2 ≤ k) && (decide (k ≤ 1000) && decide (ds.length ≤ 1000))) then some (.tup (List.replicate k.toNat ds).flatten) else none
  | d, e => mulT hc d e
theorem o_rep {X : Cx} {g : Gx} {W : WX} {k : Nat} (c : Ct X g W k) : OpR X (binaryOp .Mult) (rP g repD) := by
  intro pins s σ H x y u v Q I r1 r2 h
  obtain ⟨z, hc, d, e, r, st, rx, ry, er, q⟩ := h
  have other : mulT hc d e = some r → wpAny (model X.prog X.w) X.A (binaryOp .Mult u v) (EP X pins σ Q) X.xe s := fun e' => o_mulT pins s σ H x y u v Q I r1 r2 ⟨z, hc, d, e, r, st, rx, ry, e', q⟩
  cases rx with
  | tup h1 q1 =>
    cases ry with
    | int i =>
      simp only [repD] at er
      split at er
      · rename_i hh
        simp only [Bool.and_eq_true, decide_eq_true_eq, Bool.not_eq_true'] at hh
        cases er
        refine op_repT pins s σ H _ _ u v Q I r1 r2 ⟨_, i, _, rfl, rfl, by rw [c.hK]; exact SqT.mono st.sub h1, ?_, hh.2.1, hh.2.2.1, by rw [← q1.length]; exact hh.2.2.2, fun p hp => ?_⟩
        · intro e0
          subst e0
          cases q1
          simp at hh
        · obtain ⟨z2, x2, s2, rr⟩ := st.newTup hp (q1.rep i.toNat)
          exact q _ _ _ x2 s2 rr
      · cases er
    | _ => exact other er
  | _ => exact other (by first | exact er | (cases ry <;> exact er))
/-- [a, ..] * n -/
def repE (fs : Sl → Hc → Res (List D)) (fb : Sl → Hc → Res D) : Sl → Hc → Res D := fun sl hc => (fs sl hc).bind fun ds hc1 => if ds.length ≤ sizeLine then (fb sl hc1).bind fun b hc2 => (match b with
  | .int k => if decide (-(2 ^ 63) ≤ k) && (decide (k < 2 ^ 63) && decide (ds.length * k.toNat ≤ sizeLine)) then .ok (.lst (List.replicate k.toNat ds).flatten) hc2 else .bad
  | _ => .bad) else .bad
theorem e_rep {X : Cx} {g : Gx} {W : WX} {es : List Expr} {b : Expr} {fs : Sl → Hc → Res (List D)} {fb : Sl → Hc → Res D} {p2 pos : Pos} (h : PA X es (aI g W fs)) (hb : PE X b (tI g W fb)) : PE X (.BinOp (.List es p2) .Mult b pos) (tI g W (repE fs fb)) := by
  refine pe_imp (pe_op op_rep (pe_lst h) hb) fun σ H Q ⟨z, sl, hc, hs, st, h⟩ => ?_
  refine aI.mono (OutE.thenA (f := fs) hs st h) fun vs H1 ⟨z1, ds, hc1, x1, hs1, st1, r1, o1⟩ => ?_
  by_cases hl : ds.length ≤ sizeLine
  · rw [if_pos hl] at o1
    refine ⟨by rw [← r1.length]; exact hl, fun p hp => ?_⟩
    obtain ⟨x2, s2⟩ := st1.side (o := .lst vs) hp
    refine tI.mono (OutE.thenE (f := fb) (hs1.ext x2) s2 (OutE.ext o1 x2)) fun v H3 ⟨z3, d3, hc3, x3, hs3, st3, r3, o3⟩ => ?_
    cases r3 with
    | int k =>
      dsimp only at o3
      split at o3
      · rename_i hh
        simp only [Bool.and_eq_true, decide_eq_true_eq] at hh
        have hp3 : H3 p = some (.lst vs) := x3.keep p _ upd_same fun n e => by
          obtain ⟨u, hu⟩ := st1.live n p e
          rw [hp] at hu; cases hu
        refine ⟨p, k, vs, rfl, rfl, hp3, hh.1, hh.2.1, by rw [← r1.length]; exact hh.2.2, fun q hq => ?_⟩
        obtain ⟨z4, x4, s4, r4⟩ := st3.newLst hq (((r1.mono x2.le).mono x3.le).rep k.toNat)
        exact o3 _ _ _ x4 s4 r4
      · exact o3.elim
    | _ => exact o3.elim
  · rw [if_neg hl] at o1
    exact o1.elim
end Bo

set_option Elab.async false
set_option linter.all false
set_option maxRecDepth 100000
set_option maxHeartbeats 4000000
set_option autoImplicit false
/-! Bo25: what a translated text with classes leans on. -/
namespace Bo
open PySem PySem.Spec L2

def clsBody (s : Stmt) : List Stmt := match s with
  | .ClassDef _ _ _ b _ _ _ _ _ _ _ => b
  | _ => []
def mthOf (s : Stmt) (j : Nat) : Stmt := (clsBody s).getD j (.Pass ⟨0, 0, 0, 0⟩)
/-- a method of the class c -/
def MthD (K : PySem.W.Frag) (g : Gx) (c : Nat) (m qual : Str) (s : Stmt) : Prop := ∃ f fd, FunD K m qual (defArgs s) (defBody s) (defScope s) [] [] f fd ∧ Cls K (g.fa c) ∧ Meth K (g.fa c) m f
/-- a class that is made by its own __init__ -/
def MkD (K : PySem.W.Frag) (mg : Str → Option Value) (g : Gx) (c : Nat) (x m qual : Str) (s : Stmt) : Prop := ∃ f fd, FunD K m qual (defArgs s) (defBody s) (defScope s) [] [] f fd ∧ Mk K (g.fa c) f ∧ mg x = some (.ref (g.fa c))
section
variable {P : Program} {w : World} {K : PySem.W.Frag} {mg : Str → Option Value} {base : Heap} {g : Gx} {k c : Nat} {x m qual : Str} {N ps : List Str} {s : Stmt} {fb : Sl → Hc → RS}
theorem FnM.of (F : MthD K g c m qual s) (S : FnScope N ps (defScope s)) (hgK : K = g.K)
    (hbn : ∀ (kV doc pm : Value) (an : Option Addr) (cdv ct : Value) (us : List Value), us.length = ps.length → bindArgs (PySem.W.fnOf m qual (defArgs s) (defBody s) (defScope s) .none kV doc pm an cdv ct) ⟨us, []⟩ = pure (ps.zip us))
    (hb : ∀ (f : Addr) (cdv : Value) (A : Around) (outer : List Env) (sh : Shared) (H : Hp) (E : XK), Ct (cxB P w K mg base N qual (defScope s) f cdv A outer sh H E) g (fun cls d _ H => E cls d H) k → PassesOwn (model P w) (cxB P w K mg base N qual (defScope s) f cdv A outer sh H E).A (cxB P w K mg base N qual (defScope s) f cdv A outer sh H E).env (cxB P w K mg base N qual (defScope s) f cdv A outer sh H E).xe →
      PSs (cxB P w K mg base N qual (defScope s) f cdv A outer sh H E) (defBody s) (sI g (fun cls d _ H => E cls d H) fb)) :
    FnM P w K mg base g (k + 1) c m (fnR ps.length N.length fb) := by
  obtain ⟨f, fd, F, hC, hM⟩ := F
  exact ⟨f, (fn_body F S hgK (hb f)).v (F.bindsN hbn), hC, hM⟩
theorem FnM.star {pv : Str} (F : MthD K g c m qual s) (S : FnScope N (ps ++ [pv]) (defScope s)) (hgK : K = g.K)
    (hbn : ∀ (kV doc pm : Value) (an : Option Addr) (cdv ct : Value) (us rest : List Value), us.length = ps.length → bindArgs (PySem.W.fnOf m qual (defArgs s) (defBody s) (defScope s) .none kV doc pm an cdv ct) ⟨us ++ rest, []⟩ = (newTuple rest >>= fun t => pure (ps.zip us ++ [(pv, t)])))
    (hb : ∀ (f : Addr) (cdv : Value) (A : Around) (outer : List Env) (sh : Shared) (H : Hp) (E : XK), Ct (cxB P w K mg base N qual (defScope s) f cdv A outer sh H E) g (fun cls d _ H => E cls d H) k → PassesOwn (model P w) (cxB P w K mg base N qual (defScope s) f cdv A outer sh H E).A (cxB P w K mg base N qual (defScope s) f cdv A outer sh H E).env (cxB P w K mg base N qual (defScope s) f cdv A outer sh H E).xe →
      PSs (cxB P w K mg base N qual (defScope s) f cdv A outer sh H E) (defBody s) (sI g (fun cls d _ H => E cls d H) fb)) :
    FnM P w K mg base g (k + 1) c m (fnStar ps.length N.length fb) := by
  obtain ⟨f, fd, F, hC, hM⟩ := F
  exact ⟨f, FnV.star F S hgK hbn (hb f), hC, hM⟩
theorem FnM.bad (F : MthD K g c m qual s) : FnM P w K mg base g k c m badC := by
  obtain ⟨f, fd, F, hC, hM⟩ := F
  exact ⟨f, .bad, hC, hM⟩
theorem FnK.of (F : MkD K mg g c x m qual s) (S : FnScope N ps (defScope s)) (hgK : K = g.K)
    (hbn : ∀ (kV doc pm : Value) (an : Option Addr) (cdv ct : Value) (us : List Value), us.length = ps.length → bindArgs (PySem.W.fnOf m qual (defArgs s) (defBody s) (defScope s) .none kV doc pm an cdv ct) ⟨us, []⟩ = pure (ps.zip us))
    (hb : ∀ (f : Addr) (cdv : Value) (A : Around) (outer : List Env) (sh : Shared) (H : Hp) (E : XK), Ct (cxB P w K mg base N qual (defScope s) f cdv A outer sh H E) g (fun cls d _ H => E cls d H) k → PassesOwn (model P w) (cxB P w K mg base N qual (defScope s) f cdv A outer sh H E).A (cxB P w K mg base N qual (defScope s) f cdv A outer sh H E).env (cxB P w K mg base N qual (defScope s) f cdv A outer sh H E).xe →
      PSs (cxB P w K mg base N qual (defScope s) f cdv A outer sh H E) (defBody s) (sI g (fun cls d _ H => E cls d H) fb)) :
    FnK P w K mg base g (k + 1) c x (fnR ps.length N.length fb) := by
  obtain ⟨f, fd, F, hM, hm⟩ := F
  exact ⟨f, (fn_body F S hgK (hb f)).v (F.bindsN hbn), hM, hm⟩
/-- a def as a value: its promise by position -/
theorem FnT.v {cl : List D → Hc → Res D} (i : Nat) (F : FnT P w K mg base g k x cl) (h : mg x = some (.ref (g.fa i))) : FnV P w K mg base g k (g.fa i) cl ∧ PySem.W.keepIn K (.ref (g.fa i)) = true := by
  obtain ⟨f, fd, ps, F, hb, hm, hk⟩ := F.ex
  have e : f = g.fa i := by rw [hm] at h; cases h; rfl
  subst e
  exact ⟨F.v hb, hk⟩
end
/-! ### the exception classes, numbered 0, 1, .. by nm -/
structure ExcAll (K : PySem.W.Frag) (mg : Str → Option Value) (g : Gx) (nm : List Str) (anc : Nat → Nat → Bool) : Prop where
  ex : ∀ c x, nm[c]? = some x → ExcF K mg g c x
  ec : ∀ c x, nm[c]? = some x → ExcC K (g.fa c)
  ki : ∀ c x t y, nm[c]? = some x → nm[t]? = some y → PySem.W.kitOne K (.ref (g.fa c)) (.ref (g.fa t)) = some (anc c t)
  kv : ∀ c x, nm[c]? = some x → PySem.W.kitOne K (.ref (g.fa c)) (.type "ValueError") = some true
  xm : ∀ c x t y, nm[c]? = some x → nm[t]? = some y → PySem.W.exmOne K (.ref (g.fa c)) (.ref (g.fa t)) = some (anc c t)
def ancT (m : Nat) (anc : Nat → Nat → Bool) (t c : Nat) : Option Bool := if c < m then some (anc c t) else none
theorem ancT_some {m : Nat} {anc : Nat → Nat → Bool} {t c : Nat} {b : Bool} (h : ancT m anc t c = some b) : c < m ∧ b = anc c t := by
  unfold ancT at h
  by_cases q : c < m
  · rw [if_pos q] at h; cases h; exact ⟨q, rfl⟩
  · rw [if_neg q] at h; cases h
def valT (m : Nat) (c : Nat) : Option Bool := if c < m then some true else none
section
variable {X : Cx} {g : Gx} {W : WX} {k : Nat} {nm : List Str} {anc : Nat → Nat → Bool} {a : Expr} {fa : Sl → Hc → Res D} {p p2 pos : Pos}
theorem lt_get {m : Nat} {nm : List Str} (h : m < nm.length) : ∃ x, nm[m]? = some x := ⟨_, List.getElem?_eq_getElem h⟩
theorem e_isO {y : Str} (t : Nat) (E : ExcAll X.K X.mg g nm anc) (c : Ct X g W k) (ha : PE X a (tI g W fa)) (hm : X.mg "isinstance" = none) (ht : nm[t]? = some y := by rfl) (hg : Gl X "isinstance" := by rfl) (hg2 : Gl X y := by rfl) (hd2 : (y == ("__debug__" : Str)) = false := by decide)
    (hs : starEach [a, .Name y p2] X.env = (false, eval a X.env) :: starEach [.Name y p2] X.env := by rfl) (hs2 : starEach [.Name y p2] X.env = (false, eval (.Name y p2) X.env) :: starEach [] X.env := by rfl) (he : (backTo pos (starEach [.Name y p2] X.env)).any (·.1) = false := by rfl) :
    PE X (.Call (.Name "isinstance" p) [a, .Name y p2] [] pos) (tI g W (unE (isXD (ancT nm.length anc t)) fa)) := by
  refine e_isX (cv := .ref (g.fa t)) (tv := .ref (g.fa t)) c ha (pe_glob hg2 (E.ex t y ht).gC rfl hd2) (fun u hu => hu) hm (fun cc b hb => ?_) hg hs hs2 he
  obtain ⟨h1, rfl⟩ := ancT_some hb
  obtain ⟨x, hx⟩ := lt_get h1
  exact ⟨E.ec cc x hx, E.ki cc x t y hx ht⟩
theorem e_isV (E : ExcAll X.K X.mg g nm anc) (c : Ct X g W k) (ha : PE X a (tI g W fa)) (hm : X.mg "isinstance" = none) (hm2 : X.mg "ValueError" = none) (hg : Gl X "isinstance" := by rfl) (hg2 : Gl X "ValueError" := by rfl)
    (hs : starEach [a, .Name "ValueError" p2] X.env = (false, eval a X.env) :: starEach [.Name "ValueError" p2] X.env := by rfl) (hs2 : starEach [.Name "ValueError" p2] X.env = (false, eval (.Name "ValueError" p2) X.env) :: starEach [] X.env := by rfl) (he : (backTo pos (starEach [.Name "ValueError" p2] X.env)).any (·.1) = false := by rfl) :
    PE X (.Call (.Name "isinstance" p) [a, .Name "ValueError" p2] [] pos) (tI g W (unE (isXD (valT nm.length)) fa)) := by
  refine e_isX (cv := .type "ValueError") (tv := .ty "ValueError") c ha (pe_bltn hg2 hm2 (by decide +kernel) rfl (by decide) (by decide)) (fun u hu => hu) hm (fun cc b hb => ?_) hg hs hs2 he
  unfold valT at hb
  by_cases q : cc < nm.length
  · rw [if_pos q] at hb
    cases hb
    obtain ⟨x, hx⟩ := lt_get q
    exact ⟨E.ec cc x hx, E.kv cc x hx⟩
  · rw [if_neg q] at hb; cases hb
theorem ck_of {K : PySem.W.Frag} {mg : Str → Option Value} (E : ExcAll K mg g nm anc) {t : Nat} {y : Str} (ht : nm[t]? = some y) : ∀ c b, ancT nm.length anc t c = some b → PySem.W.exmOne K (.ref (g.fa c)) (.ref (g.fa t)) = some b := fun c b h => by
  obtain ⟨h1, rfl⟩ := ancT_some h
  obtain ⟨x, hx⟩ := lt_get h1
  exact E.xm c x t y hx ht
end
/-! ### the head's look at them -/
def excCB (K : PySem.W.Frag) (a : Addr) : Bool := decide (PySem.W.findIn K (.ref a) "__getattribute__" = some (some (.builtin "BaseException.__getattribute__"))) && (decide (PySem.W.findIn K (.ref a) "__getattr__" = some none) && (decide (PySem.W.subIn K (.ref a) (.type "BaseException") = some true) && (PySem.W.hasDictIn K a &&
  (decide (PySem.W.findIn K (.ref a) "__class__" = some (some (.builtin "object.__class__"))) && (decide (PySem.W.specialIn K (.builtin "object.__class__") "__get__" = some (some (.builtin "getset_descriptor.__get__"))) && (decide (PySem.W.takesIn K (.builtin "object.__class__") = some true) && decide (PySem.W.mroIn K a (.type "object") = some true)))))))
theorem excCB_ok {K : PySem.W.Frag} {a : Addr} (h : excCB K a = true) : ExcC K a := by
  unfold excCB at h
  simp only [Bool.and_eq_true, decide_eq_true_eq] at h
  obtain ⟨h1, h2, h3, h4, h5, h6, h7, h8⟩ := h
  exact ⟨h1, h2, h3, h4, h5, h6, h7, h8⟩
def excB (nm : List Str) (anc : Nat → Nat → Bool) (K : PySem.W.Frag) : Bool := (List.range nm.length).all fun c => (He.Fa.glo (nm.getD c "")).ok K && ((He.Fa.exc (nm.getD c "")).ok K && (excCB K (He.ga K (nm.getD c "")) && (decide (PySem.W.kitOne K (.ref (He.ga K (nm.getD c ""))) (.type "ValueError") = some true) &&
  (List.range nm.length).all fun t => decide (PySem.W.kitOne K (.ref (He.ga K (nm.getD c ""))) (.ref (He.ga K (nm.getD t ""))) = some (anc c t)) && decide (PySem.W.exmOne K (.ref (He.ga K (nm.getD c ""))) (.ref (He.ga K (nm.getD t ""))) = some (anc c t)))))
theorem excB_ok {K : PySem.W.Frag} {h : Heap} {mg : Str → Option Value} {nm : List Str} {anc : Nat → Nat → Bool} {g : Gx} (X : K.In h) (G : h.Ns mainGlobals mg) (hf : ∀ c x, nm[c]? = some x → g.fa c = He.ga K x) (b : excB nm anc K = true) : ExcAll K mg g nm anc := by
  unfold excB at b
  rw [List.all_eq_true] at b
  have at_ : ∀ {c x}, nm[c]? = some x → c ∈ List.range nm.length ∧ nm.getD c "" = x := fun {c x} e => by
    obtain ⟨hl, he⟩ := List.getElem?_eq_some_iff.mp e
    exact ⟨List.mem_range.mpr hl, by rw [List.getD_eq_getElem?_getD, e]; rfl⟩
  have get : ∀ c x, nm[c]? = some x → (He.Fa.glo x).ok K = true ∧ (He.Fa.exc x).ok K = true ∧ excCB K (He.ga K x) = true ∧ PySem.W.kitOne K (.ref (He.ga K x)) (.type "ValueError") = some true ∧
      ∀ t y, nm[t]? = some y → PySem.W.kitOne K (.ref (He.ga K x)) (.ref (He.ga K y)) = some (anc c t) ∧ PySem.W.exmOne K (.ref (He.ga K x)) (.ref (He.ga K y)) = some (anc c t) := fun c x e => by
    obtain ⟨m1, m2⟩ := at_ e
    have q := b c m1
    rw [m2] at q
    simp only [Bool.and_eq_true, decide_eq_true_eq, List.all_eq_true] at q
    obtain ⟨q1, q2, q3, q4, q5⟩ := q
    refine ⟨q1, q2, q3, q4, fun t y e2 => ?_⟩
    obtain ⟨m3, m4⟩ := at_ e2
    have := q5 t m3
    rw [m4] at this
    exact this
  refine ⟨fun c x e => ?_, fun c x e => ?_, fun c x t y e e2 => ?_, fun c x e => ?_, fun c x t y e e2 => ?_⟩
  · obtain ⟨g1, g2, _⟩ := get c x e
    obtain ⟨h1, h2, h3, h4⟩ := He.exc_ok g2
    exact ⟨by rw [hf c x e]; exact He.glo_ok X G g1, by rw [hf c x e]; exact h1, by rw [hf c x e]; exact h2, by rw [hf c x e]; exact h3, by rw [hf c x e]; exact h4⟩
  · rw [hf c x e]; exact excCB_ok (get c x e).2.2.1
  · rw [hf c x e, hf t y e2]; exact ((get c x e).2.2.2.2 t y e2).1
  · rw [hf c x e]; exact (get c x e).2.2.2.1
  · rw [hf c x e, hf t y e2]; exact ((get c x e).2.2.2.2 t y e2).2
end Bo

set_option Elab.async false
set_option linter.all false
set_option maxRecDepth 100000
set_option maxHeartbeats 4000000
set_option autoImplicit false
/-! Bo26: a numbered list is frozen; unpacking lists. -/
namespace Bo
open PySem PySem.Spec L2

theorem Hc.get_del' {h : Hc} {n k : Nat} {o : Ob} (e : (h.del n).get k = some o) : h.get k = some o ∧ k ≠ n := Hc.get_del e
theorem StR.freeze {g : Gx} {z : Fz} {H : Hp} {hc : Hc} (st : StR g z H hc) {n : Nat} {a : Addr} {u : HO} {o : Ob} (h : hc.get n = some o) (hr : z.ρ n = some a) (hH : H a = some u) :
    Ext z H ⟨upd z.F a u, z.ρ⟩ H ∧ StR g ⟨upd z.F a u, z.ρ⟩ H (hc.del n) := by
  have hF : z.F a = none := by
    obtain ⟨b, e1, e2, _⟩ := st.obj n o h
    rw [hr] at e1; cases e1; exact e2
  have le : FLe z ⟨upd z.F a u, z.ρ⟩ := ⟨fun b v e => by
    show upd z.F a u b = some v
    rw [upd_ne (fun q => by rw [q, hF] at e; cases e)]; exact e, fun _ _ e => e⟩
  refine ⟨⟨le, fun b v e _ => e, fun b v e => ⟨v, e⟩, fun b v e q => ?_, fun m b e q => ?_⟩, ⟨fun b v e => ?_, st.inj, st.live, st.fresh, fun m v e => ?_⟩⟩
  · by_cases hb : b = a
    · exact .inr ⟨n, by rw [hb]; exact hr⟩
    · have e' : upd z.F a u b = some v := e
      rw [upd_ne hb, q] at e'; cases e'
  · have e' : z.ρ m = some b := e
    rw [q] at e'; cases e'
  · have e' : upd z.F a u b = some v := e
    by_cases hb : b = a
    · subst hb; rw [upd_same] at e'; cases e'; exact hH
    · rw [upd_ne hb] at e'; exact st.sub b v e'
  · obtain ⟨e1, ne⟩ := Hc.get_del e
    obtain ⟨b, k1, k2, k3⟩ := st.obj m v e1
    have nb : b ≠ a := fun q => ne (st.inj m n a (by rw [← q]; exact k1) hr)
    refine ⟨b, k1, by show upd z.F a u b = none; rw [upd_ne nb]; exact k2, ?_⟩
    cases v with
    | lst ds =>
      obtain ⟨xs, q1, q2⟩ := k3
      exact ⟨xs, q1, q2.mono le⟩
    | ins c fs =>
      obtain ⟨dx, vs, q1, q2⟩ := k3
      exact ⟨dx, vs, q1, q2.mono le⟩
/-- what a numbered list gives as data -/
def frzR (d : D) (hc : Hc) : Res D := match d with
  | .loc n => (match hc.get n with
    | some (.lst ds) => .ok (.lst ds) (hc.del n)
    | _ => .ok d hc)
  | d => .ok d hc
def frzE (fa : Sl → Hc → Res D) : Sl → Hc → Res D := fun sl hc => (fa sl hc).bind frzR
theorem e_frz {X : Cx} {g : Gx} {W : WX} {e : Expr} {fa : Sl → Hc → Res D} (he : PE X e (tI g W fa)) : PE X e (tI g W (frzE fa)) := by
  refine pe_imp he fun σ H Q ⟨z, sl, hc, hs, st, h⟩ => ?_
  refine tI.mono (OutE.thenE (f := fa) hs st h) fun v H1 ⟨z1, d1, hc1, x1, hs1, st1, r1, o1⟩ => ?_
  have same : frzR d1 hc1 = .ok d1 hc1 → Q v H1 := fun e => by
    rw [e] at o1
    exact o1 z1 H1 v (.refl _ _) st1 r1
  cases d1 with
  | loc n =>
    cases q : hc1.get n with
    | none => exact same (by simp only [frzR, q])
    | some ob =>
      cases ob with
      | ins c fs => exact same (by simp only [frzR, q])
      | lst ds =>
        have e : frzR (.loc n) hc1 = .ok (.lst ds) (hc1.del n) := by simp only [frzR, q]
        rw [e] at o1
        obtain ⟨a, xs, rfl, hr, hH, rl⟩ := st1.at q r1
        obtain ⟨xx, ss⟩ := st1.freeze q hr hH
        exact o1 _ H1 _ xx ss (.lst (Rd.of (show upd z1.F a _ a = _ from upd_same)) (rl.mono xx.le))
  | _ => exact same rfl
/-- a, b, .. = e, e a tuple or a list -/
def tupH (n : Nat) (k : List D → Sl → Option Sl) : D → Sl → Option Sl
  | .tup ds, sl => if ds.length = n then k ds sl else none
  | .lst ds, sl => if ds.length = n then k ds sl else none
  | _, _ => none
section
variable {X : Cx} {g : Gx} {W : WX} {kk : Nat} {vs : List Nat} {es : List Expr} {fs : List D → Sl → Option Sl} {pos : Pos}
theorem g_tuph {k n : Nat} (c : Ct X g W kk) (h : PGs X es (gIs g vs fs)) (hn : (assignEach es X.env).length = n := by rfl) (hst : (assignEach es X.env).findIdx? (·.1) = none := by rfl) : PG X (.Tuple es k pos) (gI g vs (tupH n fs)) := by
  refine ⟨fun pins s σ H v u Q I r ⟨z, sl, hc, d, sl', hs, st, rd, e, q⟩ => ?_⟩
  cases rd with
  | @tup a xs ds h1 q1 =>
    have e' : (if ds.length = n then fs ds sl else none) = some sl' := e
    by_cases hl : ds.length = n
    · rw [if_pos hl] at e'
      refine (pg_tup c.calm h hn hst).run pins s σ H _ u Q I r ⟨a, xs, rfl, by rw [c.hK]; exact SqT.mono st.sub h1, by rw [← q1.length]; exact hl, ?_⟩
      exact ⟨z, sl, hc, ds, sl', hs, st, q1, e', q⟩
    · rw [if_neg hl] at e'; cases e'
  | @lst a xs ds h1 q1 =>
    have e' : (if ds.length = n then fs ds sl else none) = some sl' := e
    by_cases hl : ds.length = n
    · rw [if_pos hl] at e'
      refine (pg_lst c.calm h hn hst).run pins s σ H _ u Q I r ⟨a, xs, rfl, .inl (Rd.mono st.sub h1), by rw [← q1.length]; exact hl, ?_⟩
      exact ⟨z, sl, hc, ds, sl', hs, st, q1, e', q⟩
    · rw [if_neg hl] at e'; cases e'
  | _ => cases e
end
end Bo

set_option Elab.async false
set_option linter.all false
set_option maxRecDepth 100000
set_option maxHeartbeats 4000000
set_option autoImplicit false
/-! The walk: printed by wip/tr2.py. -/
namespace K25
open PySem PySem.Spec PyProof.Rows L2 Bo
def top (i : Nat) : Stmt := PySem.Challenge.pw_boundonce_k25_errors_apart.main.body.getD i (.Pass ⟨0, 0, 0, 0⟩)
def ancL : List (List Bool) := [[true, false, false, false, false, false, false, false, false, false, false, false, false, false, false, false, false, false, false, false, false, false], [true, true, false, false, false, false, false, false, false, false, false, false, false, false, false, false, false, false, false, false, false, false], [true, false, true, false, false, false, false, false, false, false, false, false, false, false, false, false, false, false, false, false, false, false], [true, false, false, true, false, false, false, false, false, false, false, false, false, false, false, false, false, false, false, false, false, false], [true, false, false, false, true, false, false, false, false, false, false, false, false, false, false, false, false, false, false, false, false, false], [true, false, false, false, false, true, false, false, false, false, false, false, false, false, false, false, false, false, false, false, false, false], [true, false, false, false, false, false, true, false, false, false, false, false, false, false, false, false, false, false, false, false, false, false], [true, false, false, false, false, false, false, true, false, false, false, false, false, false, false, false, false, false, false, false, false, false], [true, false, false, false, false, false, false, false, true, false, false, false, false, false, false, false, false, false, false, false, false, false], [true, false, false, false, false, false, false, false, false, true, false, false, false, false, false, false, false, false, false, false, false, false], [true, false, false, false, false, false, false, false, false, false, true, false, false, false, false, false, false, false, false, false, false, false], [true, false, false, false, false, false, false, false, false, false, false, true, false, false, false, false, false, false, false, false, false, false], [true, false, false, false, false, false, false, false, false, false, false, false, true, false, false, false, false, false, false, false, false, false], [true, false, false, false, false, false, false, false, false, false, false, false, false, true, false, false, false, false, false, false, false, false], [true, false, false, false, false, false, false, false, false, false, false, false, false, false, true, false, false, false, false, false, false, false], [true, false, false, false, false, false, false, false, false, false, false, false, false, false, false, true, false, false, false, false, false, false], [true, false, false, false, false, false, false, false, false, false, false, false, false, false, false, false, true, false, false, false, false, false], [true, false, false, false, false, false, false, false, false, false, false, false, false, false, false, false, false, true, false, false, false, false], [true, false, false, false, false, false, false, false, false, false, false, false, false, false, false, false, false, false, true, false, false, false], [true, false, false, false, false, false, false, false, false, false, false, false, false, false, false, false, false, false, false, true, false, false], [true, false, false, false, false, false, false, false, false, false, false, false, false, false, false, false, false, false, false, false, true, false], [true, false, false, false, false, false, false, false, false, false, false, false, false, false, false, false, false, false, false, false, false, true]]
def anc (c t : Nat) : Bool := (ancL.getD c []).getD t false
def excN : List Str := [("BoundError" : Str), ("InvalidName" : Str), ("InvalidCatalog" : Str), ("InvalidDeed" : Str), ("InvalidStatement" : Str), ("InvalidPath" : Str), ("InvalidText" : Str), ("InvalidEntry" : Str), ("InvalidPart" : Str), ("InvalidLine" : Str), ("Unknown" : Str), ("Taken" : Str), ("Unfit" : Str), ("NoRight" : Str), ("Ring" : Str), ("Ambiguous" : Str), ("OnCall" : Str), ("Mismatch" : Str), ("DuplicateName" : Str), ("UnknownName" : Str), ("Busy" : Str), ("NotBegun" : Str)]
def d_is_value : Sl → Hc → RS :=
  seqS (ifS (orT (nT (bT (unE (isiD .str) (vE 0)))) (nT (bT (chE leO leO (cE (.int 1)) (blE lenD (kA (vE 0) (nA))) (cE (.int 8)))))) (retS (cE (.bl false))) (nS))
  (retS (blE allD (kA (lcE [1] (nmG 1) (itE itA (vE 0)) (yT) (opE inO (vE 1) (cE (.str "abcdefghijklmnopqrstuvwxyz")))) (nA))))
def c_is_value : List D → Hc → Res D := fnR 1 2 d_is_value
def d_is_name : Sl → Hc → RS :=
  retS (andE (callE c_is_value (kA (vE 0) (nA))) (opE ninO (vE 0) (cE (.tup ((["select", "distinct", "as", "from", "where", "and", "in"] : List Str).map D.str)))))
def c_is_name : List D → Hc → Res D := fnR 1 1 d_is_name
def d_is_values : Sl → Hc → RS :=
  seqS (ifS (orT (nT (bT (unE (isiD .tup) (vE 0)))) (nT (bT (chE leO leO (cE (.int 1)) (blE lenD (kA (vE 0) (nA))) (cE (.int 8)))))) (retS (cE (.bl false))) (nS))
  (retS (andE (blE allD (kA (lcE [1] (nmG 1) (itE itA (vE 0)) (yT) (callE c_is_value (kA (vE 1) (nA)))) (nA))) (opE eqO (blE listD (kA (vE 0) (nA))) (blE sortSetD (kA (vE 0) (nA))))))
def c_is_values : List D → Hc → Res D := fnR 1 2 d_is_values
def d_is_column_form : Sl → Hc → RS :=
  seqS (ifS (orT (nT (bT (unE (isiD .tup) (vE 0)))) (bT (opE neO (blE lenD (kA (vE 0) (nA))) (cE (.int 2))))) (retS (cE (.bl false))) (nS))
  (retS (andE (orE (opE isO (opE ixD (vE 0) (cE (.int 0))) (cE .non)) (callE c_is_name (kA (opE ixD (vE 0) (cE (.int 0))) (nA)))) (callE c_is_name (kA (opE ixD (vE 0) (cE (.int 1))) (nA)))))
def c_is_column_form : List D → Hc → Res D := fnR 1 1 d_is_column_form
def d_is_call_form (self : List D → Hc → Res D) : Sl → Hc → RS :=
  seqS (ifS (orT (nT (bT (unE (isiD .tup) (vE 0)))) (orT (bT (opE neO (blE lenD (kA (vE 0) (nA))) (cE (.int 4)))) (orT (bT (opE eqO (vE 1) (cE (.int 0)))) (nT (bT (unE (isiD .str) (opE ixD (vE 0) (cE (.int 0))))))))) (retS (cE (.bl false))) (nS))
  (seqS (asG (tupH 4 (consG (nmG 2) (consG (nmG 3) (consG (nmG 4) (consG (nmG 5) (nilG)))))) (vE 0))
  (seqS (ifS (orT (bT (opE neO (vE 2) (cE (.str "call")))) (orT (nT (orT (bT (opE isO (vE 3) (cE .non))) (bT (callE c_is_name (kA (vE 3) (nA)))))) (nT (bT (callE c_is_name (kA (vE 4) (nA))))))) (retS (cE (.bl false))) (nS))
  (seqS (ifS (orT (nT (bT (unE (isiD .tup) (vE 5)))) (nT (bT (chE leO leO (cE (.int 1)) (blE lenD (kA (vE 5) (nA))) (cE (.int 2)))))) (retS (cE (.bl false))) (nS))
  (retS (blE allD (kA (lcE [6] (nmG 6) (itE itA (vE 5)) (yT) (orE (callE c_is_column_form (kA (vE 6) (nA))) (orE (callE c_is_value (kA (vE 6) (nA))) (callE self (kA (vE 6) (kA (opE subD (vE 1) (cE (.int 1))) (nA))))))) (nA)))))))
def c_is_call_form : Nat → List D → Hc → Res D
  | 0 => badC
  | n + 1 => fnR 2 7 (d_is_call_form (c_is_call_form n))
def d_is_told : Sl → Hc → RS :=
  seqS (matS (vE 0) (caseC (seqP 2 (consP (valP "star") (consP (capP 1) (nilP)))) yT (retS (andE (unE (isiD .tup) (vE 0)) (callE c_is_name (kA (vE 1) (nA))))) (caseC (seqP 3 (consP (valP "column") (consP (capP 2) (consP (capP 3) (nilP))))) yT (retS (andE (unE (isiD .tup) (vE 0)) (andE (callE c_is_column_form (kA (vE 2) (nA))) (callE c_is_name (kA (vE 3) (nA)))))) (caseC (seqP 3 (consP (valP "term") (consP (capP 4) (consP (capP 3) (nilP))))) yT (retS (andE (unE (isiD .tup) (vE 0)) (andE (orE (callE c_is_value (kA (vE 4) (nA))) (callE (c_is_call_form 12) (kA (vE 4) (kA (cE (.int 3)) (nA))))) (callE c_is_name (kA (vE 3) (nA)))))) (endC)))))
  (retS (cE (.bl false)))
def c_is_told : List D → Hc → Res D := fnR 1 5 d_is_told
def d_is_source : Sl → Hc → RS :=
  seqS (ifS (orT (nT (bT (unE (isiD .tup) (vE 0)))) (orT (bT (opE neO (blE lenD (kA (vE 0) (nA))) (cE (.int 3)))) (nT (orT (bT (opE isO (opE ixD (vE 0) (cE (.int 0))) (cE .non))) (bT (callE c_is_name (kA (opE ixD (vE 0) (cE (.int 0))) (nA)))))))) (retS (cE (.bl false))) (nS))
  (retS (andE (callE c_is_name (kA (opE ixD (vE 0) (cE (.int 1))) (nA))) (callE c_is_name (kA (opE ixD (vE 0) (cE (.int 2))) (nA)))))
def c_is_source : List D → Hc → Res D := fnR 1 1 d_is_source
def d_is_condition : Sl → Hc → RS :=
  seqS (matS (vE 0) (caseC (seqP 3 (consP (valP "equal") (consP (capP 1) (consP (capP 2) (nilP))))) yT (retS (andE (unE (isiD .tup) (vE 0)) (andE (callE c_is_column_form (kA (vE 1) (nA))) (callE c_is_column_form (kA (vE 2) (nA)))))) (caseC (seqP 3 (consP (valP "in") (consP (capP 1) (consP (capP 3) (nilP))))) yT (retS (andE (unE (isiD .tup) (vE 0)) (andE (callE c_is_column_form (kA (vE 1) (nA))) (callE c_is_values (kA (vE 3) (nA)))))) (endC))))
  (retS (cE (.bl false)))
def c_is_condition : List D → Hc → Res D := fnR 1 4 d_is_condition
def dsp_1 : Nat → Option (List D → Hc → Res D)
  | 23 => some c_is_condition
  | 24 => some c_is_told
  | 25 => some c_is_source
  | _ => none
def d_is_row_of : Sl → Hc → RS :=
  retS (andE (unE (isiD .tup) (vE 0)) (andE (chE leO leO (vE 1) (blE lenD (kA (vE 0) (nA))) (vE 2)) (blE allD (kA (lcE [4] (nmG 4) (itE itA (vE 0)) (yT) (clE 3 dsp_1 (kA (vE 4) (nA)))) (nA)))))
def c_is_row_of : List D → Hc → Res D := fnR 4 5 d_is_row_of
def d_is_statement : Sl → Hc → RS :=
  seqS (ifS (orT (nT (bT (unE (isiD .tup) (vE 0)))) (orT (bT (opE neO (blE lenD (kA (vE 0) (nA))) (cE (.int 4)))) (nT (bT (unE (isiD .bl) (opE ixD (vE 0) (cE (.int 0)))))))) (retS (cE (.bl false))) (nS))
  (seqS (ifS (orT (nT (bT (callE c_is_row_of (kA (opE ixD (vE 0) (cE (.int 1))) (kA (cE (.int 1)) (kA (cE (.int 8)) (kA (cE (.fn 24)) (nA)))))))) (nT (bT (callE c_is_row_of (kA (opE ixD (vE 0) (cE (.int 2))) (kA (cE (.int 1)) (kA (cE (.int 4)) (kA (cE (.fn 25)) (nA))))))))) (retS (cE (.bl false))) (nS))
  (seqS (ifS (bT (opE ltO (blE lenX (kA (dcE [1] (nmG 1) (itE itA (opE ixD (vE 0) (cE (.int 2)))) (yT) (opE ixD (vE 1) (cE (.int 2))) (cE (.bl true))) (nA))) (blE lenD (kA (opE ixD (vE 0) (cE (.int 2))) (nA))))) (retS (cE (.bl false))) (nS))
  (retS (callE c_is_row_of (kA (opE ixD (vE 0) (cE (.int 3))) (kA (cE (.int 0)) (kA (cE (.int 8)) (kA (cE (.fn 23)) (nA)))))))))
def c_is_statement : List D → Hc → Res D := fnR 1 2 d_is_statement
def d_write_column : Sl → Hc → RS :=
  retS (ifE (bT (opE isO (opE ixD (vE 0) (cE (.int 0))) (cE .non))) (opE ixD (vE 0) (cE (.int 1))) (fsE [unE fmtD (opE ixD (vE 0) (cE (.int 0))), cE (.str "."), unE fmtD (opE ixD (vE 0) (cE (.int 1)))]))
def c_write_column : List D → Hc → Res D := fnR 1 1 d_write_column
def d_write_term (self : List D → Hc → Res D) : Sl → Hc → RS :=
  seqS (ifS (bT (unE (isiD .str) (vE 0))) (retS (fsE [cE (.str "'"), unE fmtD (vE 0), cE (.str "'")])) (nS))
  (seqS (ifS (bT (opE eqO (blE lenD (kA (vE 0) (nA))) (cE (.int 2)))) (retS (callE c_write_column (kA (vE 0) (nA)))) (nS))
  (seqS (asgS 1 (joinE (cE (.str ", ")) (lcE [2] (nmG 2) (itE itA (opE ixD (vE 0) (cE (.int 3)))) (yT) (callE self (kA (vE 2) (nA))))))
  (retS (fsE [unE fmtD (callE c_write_column (kA (slE (vE 0) (sO (cE (.int 1))) (sO (cE (.int 3)))) (nA))), cE (.str "("), unE fmtD (vE 1), cE (.str ")")]))))
def c_write_term : Nat → List D → Hc → Res D
  | 0 => badC
  | n + 1 => fnR 1 3 (d_write_term (c_write_term n))
def d_write_told : Sl → Hc → RS :=
  seqS (matS (vE 0) (caseC (seqP 2 (consP (valP "star") (consP (capP 1) (nilP)))) yT (retS (fsE [unE fmtD (vE 1), cE (.str ".*")])) (caseC (seqP 3 (consP (valP "column") (consP (seqP 2 (consP (capP 1) (consP (capP 2) (nilP)))) (consP (capP 3) (nilP))))) (bT (opE eqO (vE 2) (vE 3))) (retS (callE c_write_column (kA (tupE (kA (vE 1) (kA (vE 2) (nA)))) (nA)))) (endC))))
  (retS (fsE [unE fmtD (callE (c_write_term 12) (kA (opE ixD (vE 0) (cE (.int 1))) (nA))), cE (.str " as "), unE fmtD (opE ixD (vE 0) (cE (.int 2)))]))
def c_write_told : List D → Hc → Res D := fnR 1 4 d_write_told
def d_write_source : Sl → Hc → RS :=
  seqS (asgS 1 (callE c_write_column (kA (slE (vE 0) nO (sO (cE (.int 2)))) (nA))))
  (retS (ifE (bT (opE eqO (opE ixD (vE 0) (cE (.int 1))) (opE ixD (vE 0) (cE (.int 2))))) (vE 1) (fsE [unE fmtD (vE 1), cE (.str " "), unE fmtD (opE ixD (vE 0) (cE (.int 2)))])))
def c_write_source : List D → Hc → Res D := fnR 1 2 d_write_source
def d_write_values : Sl → Hc → RS :=
  seqS (asgS 1 (joinE (cE (.str ", ")) (lcE [2] (nmG 2) (itE itA (vE 0)) (yT) (fsE [cE (.str "'"), unE fmtD (vE 2), cE (.str "'")]))))
  (retS (fsE [cE (.str "("), unE fmtD (vE 1), cE (.str ")")]))
def c_write_values : List D → Hc → Res D := fnR 1 3 d_write_values
def d_write_condition : Sl → Hc → RS :=
  seqS (ifS (bT (opE eqO (opE ixD (vE 0) (cE (.int 0))) (cE (.str "equal")))) (retS (fsE [unE fmtD (callE c_write_column (kA (opE ixD (vE 0) (cE (.int 1))) (nA))), cE (.str " = "), unE fmtD (callE c_write_column (kA (opE ixD (vE 0) (cE (.int 2))) (nA)))])) (nS))
  (retS (fsE [unE fmtD (callE c_write_column (kA (opE ixD (vE 0) (cE (.int 1))) (nA))), cE (.str " in "), unE fmtD (callE c_write_values (kA (opE ixD (vE 0) (cE (.int 2))) (nA)))]))
def c_write_condition : List D → Hc → Res D := fnR 1 1 d_write_condition
def d_write : Sl → Hc → RS :=
  seqS (asG (tupH 4 (consG (nmG 1) (consG (nmG 2) (consG (nmG 3) (consG (nmG 4) (nilG)))))) (vE 0))
  (seqS (asgS 5 (ifE (bT (vE 1)) (cE (.str "select distinct ")) (cE (.str "select "))))
  (seqS (asgS 5 (opE addD (vE 5) (joinE (cE (.str ", ")) (lcE [6] (nmG 6) (itE itA (vE 2)) (yT) (callE c_write_told (kA (vE 6) (nA)))))))
  (seqS (asgS 5 (opE addD (opE addD (vE 5) (cE (.str " from "))) (joinE (cE (.str ", ")) (lcE [6] (nmG 6) (itE itA (vE 3)) (yT) (callE c_write_source (kA (vE 6) (nA)))))))
  (retS (opE addD (opE addD (vE 5) (ifE (bT (opE neO (vE 4) (tupE (nA)))) (cE (.str " where ")) (cE (.str "")))) (joinE (cE (.str " and ")) (lcE [6] (nmG 6) (itE itA (vE 4)) (yT) (callE c_write_condition (kA (vE 6) (nA))))))))))
def c_write : List D → Hc → Res D := fnR 1 7 d_write
def d_is_letter : Sl → Hc → RS :=
  retS (chE leO leO (cE (.str "a")) (vE 0) (cE (.str "z")))
def c_is_letter : List D → Hc → Res D := fnR 1 1 d_is_letter
def d_words_in : Sl → Hc → RS :=
  seqS (asG (tupG 2 (consG (nmG 1) (consG (nmG 2) (nilG)))) (tupE (kA (newE (nA)) (kA (cE (.int 0)) (nA)))))
  (seqS (whileS (bT (opE ltO (vE 2) (blE lenD (kA (vE 0) (nA))))) (seqS (asgS 3 (opE addD (vE 2) (cE (.int 1))))
    (seqS (ifS (bT (callE c_is_letter (kA (opE ixD (vE 0) (vE 2)) (nA)))) (whileS (andT (bT (opE ltO (vE 3) (blE lenD (kA (vE 0) (nA))))) (bT (callE c_is_letter (kA (opE ixD (vE 0) (vE 3)) (nA))))) (augS 3 (fun a b => a + b) (cE (.int 1))) 1000) (ifS (bT (opE eqO (opE ixD (vE 0) (vE 2)) (cE (.str "'")))) (seqS (whileS (andT (bT (opE ltO (vE 3) (blE lenD (kA (vE 0) (nA))))) (bT (callE c_is_letter (kA (opE ixD (vE 0) (vE 3)) (nA))))) (augS 3 (fun a b => a + b) (cE (.int 1))) 1000)
        (augS 3 (fun a b => a + b) (cE (.int 1)))) (nS)))
    (seqS (exS (mtE appD (vE 1) (kA (slE (vE 0) (sO (vE 2)) (sO (vE 3))) (nA))))
    (asgS 2 (vE 3))))) 1000)
  (retS (frzE (vE 1))))
def c_words_in : List D → Hc → Res D := fnR 1 4 d_words_in
def d_Reader____init__ : Sl → Hc → RS :=
  seqS (ifS (nT (bT (unE (isiD .str) (vE 1)))) (raiS 6 (cE (.str "an object is no text of a statement"))) (nS))
  (seqS (fldS 22 "words" (vE 0) (callE c_words_in (kA (vE 1) (nA))))
  (fldS 22 "place" (vE 0) (cE (.int 0))))
def c_Reader____init__ : List D → Hc → Res D := fnR 2 2 d_Reader____init__
def d_Reader__next_word : Sl → Hc → RS :=
  retS (ifE (bT (opE ltO (unE (fldD 22 "place") (vE 0)) (blE lenD (kA (unE (fldD 22 "words") (vE 0)) (nA))))) (opE ixD (unE (fldD 22 "words") (vE 0)) (unE (fldD 22 "place") (vE 0))) (cE (.str "")))
def c_Reader__next_word : List D → Hc → Res D := fnR 1 1 d_Reader__next_word
def d_Reader__take : Sl → Hc → RS :=
  seqS (asgS 1 (mthE 22 "next_word" c_Reader__next_word (vE 0) nA))
  (seqS (fldA 22 "place" (fun a b => a + b) (vE 0) (cE (.int 1)))
  (retS (vE 1)))
def c_Reader__take : List D → Hc → Res D := fnR 1 2 d_Reader__take
def d_Reader__skip : Sl → Hc → RS :=
  forS (nmG 2) (itE itA (vE 1)) (ifS (bT (opE neO (mthE 22 "take" c_Reader__take (vE 0) nA) (vE 2))) (raiS 6 (cE (.str "an object is no text of a statement"))) (nS))
def c_Reader__skip : List D → Hc → Res D := fnStar 1 3 d_Reader__skip
def d_Reader__comes : Sl → Hc → RS :=
  seqS (asgS 2 (blE lenD (kA (vE 1) (nA))))
  (seqS (ifS (bT (opE neO (slE (unE (fldD 22 "words") (vE 0)) (sO (unE (fldD 22 "place") (vE 0))) (sO (opE addD (unE (fldD 22 "place") (vE 0)) (vE 2)))) (blE listD (kA (vE 1) (nA))))) (retS (cE (.bl false))) (nS))
  (seqS (fldA 22 "place" (fun a b => a + b) (vE 0) (vE 2))
  (retS (cE (.bl true)))))
def c_Reader__comes : List D → Hc → Res D := fnStar 1 3 d_Reader__comes
def d_Reader__take_name : Sl → Hc → RS :=
  seqS (asgS 1 (mthE 22 "take" c_Reader__take (vE 0) nA))
  (seqS (ifS (nT (bT (callE c_is_name (kA (vE 1) (nA))))) (raiS 6 (cE (.str "an object is no text of a statement"))) (nS))
  (retS (vE 1)))
def c_Reader__take_name : List D → Hc → Res D := fnR 1 2 d_Reader__take_name
def d_Reader__take_value : Sl → Hc → RS :=
  seqS (asgS 1 (mthE 22 "take" c_Reader__take (vE 0) nA))
  (seqS (ifS (orT (bT (opE ltO (blE lenD (kA (vE 1) (nA))) (cE (.int 3)))) (orT (bT (opE neO (opE ixD (vE 1) (cE (.int 0))) (cE (.str "'")))) (bT (opE neO (opE ixD (vE 1) (unE negD (cE (.int 1)))) (cE (.str "'")))))) (raiS 6 (cE (.str "an object is no text of a statement"))) (nS))
  (retS (slE (vE 1) (sO (cE (.int 1))) (sO (unE negD (cE (.int 1)))))))
def c_Reader__take_value : List D → Hc → Res D := fnR 1 2 d_Reader__take_value
def d_Reader__take_column : Sl → Hc → RS :=
  seqS (asgS 1 (mthE 22 "take_name" c_Reader__take_name (vE 0) nA))
  (retS (ifE (bT (mthE 22 "comes" c_Reader__comes (vE 0) (kA (cE (.str ".")) (nA)))) (tupE (kA (vE 1) (kA (mthE 22 "take_name" c_Reader__take_name (vE 0) nA) (nA)))) (tupE (kA (cE .non) (kA (vE 1) (nA))))))
def c_Reader__take_column : List D → Hc → Res D := fnR 1 2 d_Reader__take_column
def d_Reader__is_label : Sl → Hc → RS :=
  seqS (ifS (bT (opE eqO (slE (unE (fldD 22 "words") (vE 0)) (sO (opE addD (unE (fldD 22 "place") (vE 0)) (cE (.int 1)))) (sO (opE addD (unE (fldD 22 "place") (vE 0)) (cE (.int 2))))) (lstE (kA (cE (.str "where")) (nA))))) (retS (cE (.bl false))) (nS))
  (seqS (exS (mthE 22 "skip" c_Reader__skip (vE 0) (kA (cE (.str " ")) (nA))))
  (retS (cE (.bl true))))
def c_Reader__is_label : List D → Hc → Res D := fnR 1 1 d_Reader__is_label
def d_Reader__take_source : Sl → Hc → RS :=
  seqS (asgS 1 (mthE 22 "take_column" c_Reader__take_column (vE 0) nA))
  (seqS (asgS 2 (ifE (andT (bT (opE eqO (mthE 22 "next_word" c_Reader__next_word (vE 0) nA) (cE (.str " ")))) (bT (mthE 22 "is_label" c_Reader__is_label (vE 0) nA))) (mthE 22 "take_name" c_Reader__take_name (vE 0) nA) (opE ixD (vE 1) (cE (.int 1)))))
  (retS (tupE (sA (vE 1) (kA (vE 2) (nA))))))
def c_Reader__take_source : List D → Hc → Res D := fnR 1 3 d_Reader__take_source
def d_Reader__take_part (self : Nat → List D → Hc → Res D) : Sl → Hc → RS :=
  seqS (ifS (bT (opE eqO (vE 1) (cE (.str "name")))) (retS (mthE 22 "take_name" c_Reader__take_name (vE 0) nA)) (nS))
  (seqS (ifS (bT (opE eqO (vE 1) (cE (.str "value")))) (retS (mthE 22 "take_value" c_Reader__take_value (vE 0) nA)) (nS))
  (seqS (ifS (bT (opE eqO (vE 1) (cE (.str "told")))) (retS (mthE 22 "take_told" (self 3) (vE 0) nA)) (nS))
  (retS (ifE (bT (opE eqO (vE 1) (cE (.str "source")))) (mthE 22 "take_source" c_Reader__take_source (vE 0) nA) (mthE 22 "take_term" (self 2) (vE 0) (kA (vE 1) (nA)))))))
def d_Reader__take_parts (self : Nat → List D → Hc → Res D) : Sl → Hc → RS :=
  seqS (asgS 2 (newE (kA (mthE 22 "take_part" (self 0) (vE 0) (kA (vE 1) (nA))) (nA))))
  (seqS (whileS (bT (mthE 22 "comes" c_Reader__comes (vE 0) (kA (cE (.str ",")) (kA (cE (.str " ")) (nA))))) (exS (mtE appD (vE 2) (kA (mthE 22 "take_part" (self 0) (vE 0) (kA (vE 1) (nA))) (nA)))) 1000)
  (retS (blE tupleD (kA (vE 2) (nA)))))
def d_Reader__take_term (self : Nat → List D → Hc → Res D) : Sl → Hc → RS :=
  seqS (ifS (bT (opE eqO (slE (mthE 22 "next_word" c_Reader__next_word (vE 0) nA) nO (sO (cE (.int 1)))) (cE (.str "'")))) (retS (mthE 22 "take_value" c_Reader__take_value (vE 0) nA)) (nS))
  (seqS (asgS 2 (mthE 22 "take_column" c_Reader__take_column (vE 0) nA))
  (seqS (ifS (orT (bT (opE eqO (vE 1) (cE (.int 0)))) (nT (bT (mthE 22 "comes" c_Reader__comes (vE 0) (kA (cE (.str "(")) (nA)))))) (retS (vE 2)) (nS))
  (seqS (asgS 3 (mthE 22 "take_parts" (self 1) (vE 0) (kA (opE subD (vE 1) (cE (.int 1))) (nA))))
  (seqS (exS (mthE 22 "skip" c_Reader__skip (vE 0) (kA (cE (.str ")")) (nA))))
  (retS (tupE (kA (cE (.str "call")) (sA (vE 2) (kA (vE 3) (nA))))))))))
def d_Reader__take_told (self : Nat → List D → Hc → Res D) : Sl → Hc → RS :=
  seqS (ifS (bT (opE eqO (slE (unE (fldD 22 "words") (vE 0)) (sO (opE addD (unE (fldD 22 "place") (vE 0)) (cE (.int 1)))) (sO (opE addD (unE (fldD 22 "place") (vE 0)) (cE (.int 3))))) (lstE (kA (cE (.str ".")) (kA (cE (.str "*")) (nA)))))) (seqS (asgS 1 (mthE 22 "take_name" c_Reader__take_name (vE 0) nA))
    (seqS (exS (mthE 22 "skip" c_Reader__skip (vE 0) (kA (cE (.str ".")) (kA (cE (.str "*")) (nA)))))
    (retS (tupE (kA (cE (.str "star")) (kA (vE 1) (nA))))))) (nS))
  (seqS (asgS 2 (mthE 22 "take_term" (self 2) (vE 0) (kA (cE (.int 3)) (nA))))
  (seqS (asgS 3 (andE (unE (isiD .tup) (vE 2)) (opE eqO (blE lenD (kA (vE 2) (nA))) (cE (.int 2)))))
  (seqS (ifS (andT (bT (vE 3)) (nT (bT (mthE 22 "comes" c_Reader__comes (vE 0) (kA (cE (.str " ")) (kA (cE (.str "as")) (kA (cE (.str " ")) (nA)))))))) (retS (tupE (kA (cE (.str "column")) (kA (vE 2) (kA (opE ixD (vE 2) (cE (.int 1))) (nA)))))) (nS))
  (seqS (ifS (nT (bT (vE 3))) (exS (mthE 22 "skip" c_Reader__skip (vE 0) (kA (cE (.str " ")) (kA (cE (.str "as")) (kA (cE (.str " ")) (nA)))))) (nS))
  (retS (tupE (kA (ifE (bT (vE 3)) (cE (.str "column")) (cE (.str "term"))) (kA (vE 2) (kA (mthE 22 "take_name" c_Reader__take_name (vE 0) nA) (nA))))))))))
def c_G2 : Nat → Nat → List D → Hc → Res D
  | 0, _ => badC
  | n + 1, 0 => fnR 2 2 (d_Reader__take_part (c_G2 n))
  | n + 1, 1 => fnR 2 3 (d_Reader__take_parts (c_G2 n))
  | n + 1, 2 => fnR 2 4 (d_Reader__take_term (c_G2 n))
  | n + 1, 3 => fnR 1 4 (d_Reader__take_told (c_G2 n))
  | _ + 1, _ => badC
def d_Reader__take_values : Sl → Hc → RS :=
  seqS (exS (mthE 22 "skip" c_Reader__skip (vE 0) (kA (cE (.str "(")) (nA))))
  (seqS (asgS 1 (mthE 22 "take_parts" (c_G2 12 1) (vE 0) (kA (cE (.str "value")) (nA))))
  (seqS (exS (mthE 22 "skip" c_Reader__skip (vE 0) (kA (cE (.str ")")) (nA))))
  (retS (vE 1))))
def c_Reader__take_values : List D → Hc → Res D := fnR 1 2 d_Reader__take_values
def d_Reader__take_condition : Sl → Hc → RS :=
  seqS (asgS 1 (mthE 22 "take_column" c_Reader__take_column (vE 0) nA))
  (seqS (exS (mthE 22 "skip" c_Reader__skip (vE 0) (kA (cE (.str " ")) (nA))))
  (seqS (ifS (bT (mthE 22 "comes" c_Reader__comes (vE 0) (kA (cE (.str "=")) (kA (cE (.str " ")) (nA))))) (retS (tupE (kA (cE (.str "equal")) (kA (vE 1) (kA (mthE 22 "take_column" c_Reader__take_column (vE 0) nA) (nA)))))) (nS))
  (seqS (exS (mthE 22 "skip" c_Reader__skip (vE 0) (kA (cE (.str "in")) (kA (cE (.str " ")) (nA)))))
  (retS (tupE (kA (cE (.str "in")) (kA (vE 1) (kA (mthE 22 "take_values" c_Reader__take_values (vE 0) nA) (nA)))))))))
def c_Reader__take_condition : List D → Hc → Res D := fnR 1 2 d_Reader__take_condition
def d_Reader__take_statement : Sl → Hc → RS :=
  seqS (exS (mthE 22 "skip" c_Reader__skip (vE 0) (kA (cE (.str "select")) (kA (cE (.str " ")) (nA)))))
  (seqS (asgS 1 (mthE 22 "comes" c_Reader__comes (vE 0) (kA (cE (.str "distinct")) (kA (cE (.str " ")) (nA)))))
  (seqS (asgS 2 (mthE 22 "take_parts" (c_G2 12 1) (vE 0) (kA (cE (.str "told")) (nA))))
  (seqS (exS (mthE 22 "skip" c_Reader__skip (vE 0) (kA (cE (.str " ")) (kA (cE (.str "from")) (kA (cE (.str " ")) (nA))))))
  (seqS (asG (tupG 2 (consG (nmG 3) (consG (nmG 4) (nilG)))) (tupE (kA (mthE 22 "take_parts" (c_G2 12 1) (vE 0) (kA (cE (.str "source")) (nA))) (kA (newE (nA)) (nA)))))
  (seqS (ifS (bT (mthE 22 "comes" c_Reader__comes (vE 0) (kA (cE (.str " ")) (kA (cE (.str "where")) (kA (cE (.str " ")) (nA)))))) (seqS (exS (mtE appD (vE 4) (kA (mthE 22 "take_condition" c_Reader__take_condition (vE 0) nA) (nA))))
    (whileS (bT (mthE 22 "comes" c_Reader__comes (vE 0) (kA (cE (.str " ")) (kA (cE (.str "and")) (kA (cE (.str " ")) (nA)))))) (exS (mtE appD (vE 4) (kA (mthE 22 "take_condition" c_Reader__take_condition (vE 0) nA) (nA)))) 1000)) (nS))
  (retS (tupE (kA (vE 1) (kA (vE 2) (kA (vE 3) (kA (blE tupleD (kA (vE 4) (nA))) (nA))))))))))))
def c_Reader__take_statement : List D → Hc → Res D := fnR 1 5 d_Reader__take_statement
def d_Reader__finish : Sl → Hc → RS :=
  ifS (bT (opE neO (unE (fldD 22 "place") (vE 0)) (blE lenD (kA (unE (fldD 22 "words") (vE 0)) (nA))))) (raiS 6 (cE (.str "an object is no text of a statement"))) (nS)
def c_Reader__finish : List D → Hc → Res D := fnR 1 1 d_Reader__finish
def d_read : Sl → Hc → RS :=
  seqS (asgS 1 (makE 22 c_Reader____init__ (kA (vE 0) (nA))))
  (seqS (asgS 2 (mthE 22 "take_statement" c_Reader__take_statement (vE 1) nA))
  (seqS (exS (mthE 22 "finish" c_Reader__finish (vE 1) nA))
  (seqS (ifS (orT (nT (bT (callE c_is_statement (kA (vE 2) (nA))))) (bT (opE neO (callE c_write (kA (vE 2) (nA))) (vE 0)))) (raiS 6 (cE (.str "an object is no text of a statement"))) (nS))
  (retS (vE 2)))))
def c_read : List D → Hc → Res D := fnR 1 3 d_read
def d_law_pen : Sl → Hc → RS :=
  retS (newE (kA (blE listD (kA (slE (vE 0) nO (sO (cE (.int 60)))) (nA))) (kA (cE (.int 0)) (kA (cE (.int 0)) (nA)))))
def c_law_pen : List D → Hc → Res D := fnR 1 1 d_law_pen
def d_law_next : Sl → Hc → RS :=
  seqS (asgS 1 (opE ixD (vE 0) (cE (.int 1))))
  (seqS (subS (vE 0) (cE (.int 1)) (opE addD (vE 1) (cE (.int 1))))
  (seqS (asgS 2 (opE addD (opE mulD (vE 1) (cE (.int 1087))) (cE (.int 73))))
  (seqS (ifS (bT (opE neO (opE ixD (vE 0) (cE (.int 0))) (lstE (nA)))) (asgS 2 (opE ixD (opE ixD (vE 0) (cE (.int 0))) (opE modD (blE intD (kA (vE 1) (nA))) (blE lenD (kA (opE ixD (vE 0) (cE (.int 0))) (nA)))))) (nS))
  (seqS (ifS (andT (bT (opE ltO (vE 1) (blE lenD (kA (opE ixD (vE 0) (cE (.int 0))) (nA))))) (bT (opE geO (vE 2) (opE powD (cE (.int 10)) (cE (.int 18)))))) (retS (vE 2)) (nS))
  (seqS (asgS 3 (opE modD (blE intD (kA (opE addD (opE addD (opE modD (blE intD (kA (vE 2) (nA))) (cE (.int 2147483587))) (opE mulD (vE 1) (cE (.int 30133)))) (cE (.int 101))) (nA))) (cE (.int 2147483587))))
  (seqS (asgS 4 (opE modD (blE intD (kA (opE addD (opE addD (opE mulD (vE 3) (vE 3)) (opE mulD (vE 1) (cE (.int 70111)))) (cE (.int 73))) (nA))) (cE (.int 2147483563))))
  (seqS (asgS 5 (opE modD (blE intD (kA (opE addD (opE addD (opE mulD (vE 4) (vE 4)) (vE 3)) (opE mulD (opE mulD (vE 1) (vE 1)) (cE (.int 47)))) (nA))) (cE (.int 2147483549))))
  (retS (opE addD (opE mulD (opE addD (opE mulD (vE 5) (cE (.int 2147483587))) (vE 4)) (cE (.int 2147483563))) (vE 3))))))))))
def c_law_next : List D → Hc → Res D := fnR 1 6 d_law_next
def d_law_draw : Sl → Hc → RS :=
  seqS (ifS (bT (opE ltO (opE ixD (vE 0) (cE (.int 2))) (vE 1))) (subS (vE 0) (cE (.int 2)) (callE c_law_next (kA (vE 0) (nA)))) (nS))
  (seqS (asgS 2 (opE modD (blE intD (kA (opE ixD (vE 0) (cE (.int 2))) (nA))) (vE 1)))
  (seqS (subS (vE 0) (cE (.int 2)) (opE fdivD (opE ixD (vE 0) (cE (.int 2))) (vE 1)))
  (retS (vE 2))))
def c_law_draw : List D → Hc → Res D := fnR 2 3 d_law_draw
def d_law_made : Sl → Hc → RS :=
  seqS (asgS 1 (lstE (kA (excE 0 (opE ixD (vE 0) (cE (.int 21)))) (nA))))
  (seqS (asgS 1 (opE addD (vE 1) (lstE (kA (excE 1 (opE ixD (vE 0) (cE (.int 0)))) (kA (excE 2 (opE ixD (vE 0) (cE (.int 1)))) (kA (excE 3 (opE ixD (vE 0) (cE (.int 2)))) (kA (excE 4 (opE ixD (vE 0) (cE (.int 3)))) (nA))))))))
  (seqS (asgS 1 (opE addD (vE 1) (lstE (kA (excE 5 (opE ixD (vE 0) (cE (.int 4)))) (kA (excE 6 (opE ixD (vE 0) (cE (.int 5)))) (kA (excE 7 (opE ixD (vE 0) (cE (.int 6)))) (kA (excE 8 (opE ixD (vE 0) (cE (.int 7)))) (nA))))))))
  (seqS (asgS 1 (opE addD (vE 1) (lstE (kA (excE 9 (opE ixD (vE 0) (cE (.int 8)))) (kA (excE 10 (opE ixD (vE 0) (cE (.int 9)))) (kA (excE 11 (opE ixD (vE 0) (cE (.int 10)))) (kA (excE 12 (opE ixD (vE 0) (cE (.int 11)))) (nA))))))))
  (seqS (asgS 1 (opE addD (vE 1) (lstE (kA (excE 13 (opE ixD (vE 0) (cE (.int 12)))) (kA (excE 14 (opE ixD (vE 0) (cE (.int 13)))) (kA (excE 15 (opE ixD (vE 0) (cE (.int 14)))) (kA (excE 16 (opE ixD (vE 0) (cE (.int 15)))) (nA))))))))
  (seqS (asgS 1 (opE addD (vE 1) (lstE (kA (excE 17 (opE ixD (vE 0) (cE (.int 16)))) (kA (excE 18 (opE ixD (vE 0) (cE (.int 17)))) (kA (excE 19 (opE ixD (vE 0) (cE (.int 18)))) (kA (excE 20 (opE ixD (vE 0) (cE (.int 19)))) (nA))))))))
  (seqS (asgS 1 (opE addD (vE 1) (lstE (kA (excE 21 (opE ixD (vE 0) (cE (.int 20)))) (nA)))))
  (retS (vE 1))))))))
def c_law_made : List D → Hc → Res D := fnR 1 2 d_law_made
def d_law_kinds : Sl → Hc → RS :=
  seqS (asgS 1 (lstE (nA)))
  (seqS (asgS 1 (opE addD (vE 1) (lstE (kA (unE (isXD (ancT 22 anc 1)) (vE 0)) (kA (unE (isXD (ancT 22 anc 2)) (vE 0)) (nA))))))
  (seqS (asgS 1 (opE addD (vE 1) (lstE (kA (unE (isXD (ancT 22 anc 3)) (vE 0)) (nA)))))
  (seqS (asgS 1 (opE addD (vE 1) (lstE (kA (unE (isXD (ancT 22 anc 4)) (vE 0)) (kA (unE (isXD (ancT 22 anc 5)) (vE 0)) (nA))))))
  (seqS (asgS 1 (opE addD (vE 1) (lstE (kA (unE (isXD (ancT 22 anc 6)) (vE 0)) (nA)))))
  (seqS (asgS 1 (opE addD (vE 1) (lstE (kA (unE (isXD (ancT 22 anc 7)) (vE 0)) (kA (unE (isXD (ancT 22 anc 8)) (vE 0)) (kA (unE (isXD (ancT 22 anc 9)) (vE 0)) (nA)))))))
  (seqS (asgS 1 (opE addD (vE 1) (lstE (kA (unE (isXD (ancT 22 anc 10)) (vE 0)) (kA (unE (isXD (ancT 22 anc 11)) (vE 0)) (kA (unE (isXD (ancT 22 anc 12)) (vE 0)) (nA)))))))
  (seqS (asgS 1 (opE addD (vE 1) (lstE (kA (unE (isXD (ancT 22 anc 13)) (vE 0)) (kA (unE (isXD (ancT 22 anc 14)) (vE 0)) (kA (unE (isXD (ancT 22 anc 15)) (vE 0)) (nA)))))))
  (seqS (asgS 1 (opE addD (vE 1) (lstE (kA (unE (isXD (ancT 22 anc 16)) (vE 0)) (kA (unE (isXD (ancT 22 anc 17)) (vE 0)) (kA (unE (isXD (ancT 22 anc 18)) (vE 0)) (nA)))))))
  (seqS (asgS 1 (opE addD (vE 1) (lstE (kA (unE (isXD (ancT 22 anc 19)) (vE 0)) (kA (unE (isXD (ancT 22 anc 20)) (vE 0)) (kA (unE (isXD (ancT 22 anc 21)) (vE 0)) (nA)))))))
  (retS (vE 1)))))))))))
def c_law_kinds : List D → Hc → Res D := fnR 1 2 d_law_kinds
def d_law : Sl → Hc → RS :=
  seqS (asgS 1 (callE c_law_pen (kA (vE 0) (nA))))
  (seqS (asgS 2 (lstE (kA (cE (.str "")) (kA (cE (.str "a")) (kA (opE mulT (cE (.str "x")) (cE (.int 40))) (kA (cE (.str "two words")) (kA (cE (.str "'quoted'")) (kA (cE (.str "a\nb")) (kA (cE (.str "{}")) (nA))))))))))
  (seqS (asgS 3 (lcE [5] (nmG 5) (itE itR (cE (.int 22))) (yT) (opE ixD (vE 2) (callE c_law_draw (kA (vE 1) (kA (cE (.int 7)) (nA)))))))
  (seqS (asgS 4 (callE c_law_made (kA (vE 3) (nA))))
  (seqS (forS (nmG 5) (itE itR (blE lenD (kA (vE 4) (nA)))) (seqS (asgS 6 (opE ixD (vE 4) (vE 5)))
    (seqS (ifS (orT (nT (bT (unE (isXD (ancT 22 anc 0)) (vE 6)))) (nT (bT (unE (isXD (valT 22)) (vE 6))))) (retS (cE (.bl false))) (nS))
    (seqS (asgS 7 (lcE [9] (nmG 9) (itE itR (cE (.int 21))) (yT) (opE eqO (opE addD (vE 9) (cE (.int 1))) (vE 5))))
    (ifS (bT (opE neO (blE reprA (kA (callE c_law_kinds (kA (vE 6) (nA))) (nA))) (blE reprA (kA (vE 7) (nA))))) (retS (cE (.bl false))) (nS))))))
  (seqS (asgS 6 (cE .non))
  (seqS (tryS (ancT 22 anc 0) 8 6 (exS (callE c_read (kA (opE ixD (lstE (kA (cE (.str "")) (kA (cE (.str "select")) (kA (cE (.str "select a")) (nA))))) (callE c_law_draw (kA (vE 1) (kA (cE (.int 3)) (nA))))) (nA)))))
  (retS (andE (opE isnO (vE 6) (cE .non)) (opE eqO (blE reprA (kA (callE c_law_kinds (kA (vE 6) (nA))) (nA))) (blE reprA (kA (callE c_law_kinds (kA (excE 6 (cE (.str "a"))) (nA))) (nA))))))))))))
def c_law : List D → Hc → Res D := fnR 1 10 d_law
/-- what the head tells -/
structure Mg (g : Gx) (K : PySem.W.Frag) (mg : Str → Option Value) : Prop where
  f_is_value : TopD K mg "is_value" (top 28)
  f_is_name : TopD K mg "is_name" (top 29)
  f_is_values : TopD K mg "is_values" (top 30)
  f_is_column_form : TopD K mg "is_column_form" (top 36)
  f_is_call_form : TopD K mg "is_call_form" (top 37)
  f_is_told : TopD K mg "is_told" (top 38)
  f_is_source : TopD K mg "is_source" (top 39)
  f_is_condition : TopD K mg "is_condition" (top 40)
  f_is_row_of : TopD K mg "is_row_of" (top 41)
  f_is_statement : TopD K mg "is_statement" (top 42)
  f_write_column : TopD K mg "write_column" (top 45)
  f_write_term : TopD K mg "write_term" (top 46)
  f_write_told : TopD K mg "write_told" (top 47)
  f_write_source : TopD K mg "write_source" (top 48)
  f_write_values : TopD K mg "write_values" (top 49)
  f_write_condition : TopD K mg "write_condition" (top 50)
  f_write : TopD K mg "write" (top 51)
  f_is_letter : TopD K mg "is_letter" (top 52)
  f_words_in : TopD K mg "words_in" (top 53)
  f_Reader____init__ : MkD K mg g 22 "Reader" "__init__" "Reader.__init__" (mthOf (top 54) 0)
  f_Reader__next_word : MthD K g 22 "next_word" "Reader.next_word" (mthOf (top 54) 1)
  f_Reader__take : MthD K g 22 "take" "Reader.take" (mthOf (top 54) 2)
  f_Reader__skip : MthD K g 22 "skip" "Reader.skip" (mthOf (top 54) 3)
  f_Reader__comes : MthD K g 22 "comes" "Reader.comes" (mthOf (top 54) 4)
  f_Reader__take_name : MthD K g 22 "take_name" "Reader.take_name" (mthOf (top 54) 5)
  f_Reader__take_value : MthD K g 22 "take_value" "Reader.take_value" (mthOf (top 54) 6)
  f_Reader__take_column : MthD K g 22 "take_column" "Reader.take_column" (mthOf (top 54) 7)
  f_Reader__is_label : MthD K g 22 "is_label" "Reader.is_label" (mthOf (top 54) 14)
  f_Reader__take_source : MthD K g 22 "take_source" "Reader.take_source" (mthOf (top 54) 13)
  f_Reader__take_part : MthD K g 22 "take_part" "Reader.take_part" (mthOf (top 54) 8)
  f_Reader__take_parts : MthD K g 22 "take_parts" "Reader.take_parts" (mthOf (top 54) 9)
  f_Reader__take_term : MthD K g 22 "take_term" "Reader.take_term" (mthOf (top 54) 11)
  f_Reader__take_told : MthD K g 22 "take_told" "Reader.take_told" (mthOf (top 54) 12)
  f_Reader__take_values : MthD K g 22 "take_values" "Reader.take_values" (mthOf (top 54) 10)
  f_Reader__take_condition : MthD K g 22 "take_condition" "Reader.take_condition" (mthOf (top 54) 15)
  f_Reader__take_statement : MthD K g 22 "take_statement" "Reader.take_statement" (mthOf (top 54) 16)
  f_Reader__finish : MthD K g 22 "finish" "Reader.finish" (mthOf (top 54) 17)
  f_read : TopD K mg "read" (top 55)
  f_law_pen : TopD K mg "_law_pen" (top 57)
  f_law_next : TopD K mg "_law_next" (top 58)
  f_law_draw : TopD K mg "_law_draw" (top 59)
  f_law_made : TopD K mg "_law_made" (top 60)
  f_law_kinds : TopD K mg "_law_kinds" (top 61)
  f_law : TopD K mg "law" (top 62)
  cl_Reader : Cls K (g.fa 22)
  na_Reader_words : NoAttr K (g.fa 22) "words"
  na_Reader_place : NoAttr K (g.fa 22) "place"
  v_is_condition : mg "is_condition" = some (.ref (g.fa 23))
  v_is_told : mg "is_told" = some (.ref (g.fa 24))
  v_is_source : mg "is_source" = some (.ref (g.fa 25))
  ex : ExcAll K mg g excN anc
  n_isinstance : mg "isinstance" = none
  n_str : mg "str" = none
  n_len : mg "len" = none
  n_all : mg "all" = none
  n_tuple : mg "tuple" = none
  n_list : mg "list" = none
  n_sorted : mg "sorted" = none
  n_set : mg "set" = none
  n_bool : mg "bool" = none
  n_int : mg "int" = none
  n_range : mg "range" = none
  n_ValueError : mg "ValueError" = none
  n_repr : mg "repr" = none
  g_MOST_LETTERS : TopI mg "MOST_LETTERS" 8
  g_LETTERS : TopS mg "LETTERS" "abcdefghijklmnopqrstuvwxyz"
  g_RESERVED : TopTS K mg "RESERVED" ["select", "distinct", "as", "from", "where", "and", "in"]
  g_MOST_VALUES : TopI mg "MOST_VALUES" 8
  g_DEPTH : TopI mg "DEPTH" 3
  g_MOST_TOLD : TopI mg "MOST_TOLD" 8
  g_MOST_SOURCES : TopI mg "MOST_SOURCES" 4
  g_MOST_CONDITIONS : TopI mg "MOST_CONDITIONS" 8
  g_DOUBT : TopS mg "DOUBT" "an object is no text of a statement"
section
variable {P : Program} {w : World} {K : PySem.W.Frag} {mg : Str → Option Value} {base : Heap} {g : Gx}
theorem sc_is_value : FnScope ["thing", "letter"] ["thing"] (defScope (top 28)) := ⟨rfl, rfl, rfl, by decide +kernel, rfl, by decide +kernel, by decide +kernel⟩
theorem ok_is_value (M : Mg g K mg) (hK : K = g.K) : FnT P w K mg base g 1 "is_value" c_is_value := by
  refine FnT.of (N := ["thing", "letter"]) (ps := ["thing"]) (k := 0) M.f_is_value sc_is_value hK (fun _ _ _ _ _ _ us hl => match us, hl with | [_], _ => rfl) fun f cdv A outer sh H E c hp => ?_
  exact (s_seq (s_if (t_bool (w_or (t_not (t_val (e_isi .str c (e_var 0) M.n_isinstance M.n_str))) (w_one (t_not (t_ch o_le o_le e_int (e_blt (b_len c) M.n_len (a_cons (e_var 0) a_nil)) (e_gi M.g_MOST_LETTERS)))))) (s_one (s_ret e_bl)) s_nil)
  (s_one (s_ret (e_blt (b_all c) M.n_all (a_cons (e_lc [("letter", 1)] c sc_is_value.nd (i_any c (e_var 0)) (by kernel_rfl) (fun s1 H1 C1 l1 p1 => (g_name 1 sc_is_value.nd)) (fun s1 H1 C1 l1 p1 => ts_nil) (fun s1 H1 C1 l1 p1 => (e_cmp (o_in (c.blk s1 H1 _ (compEnvC _ l1 C1 _) p1)) (e_var 1) (e_gs M.g_LETTERS)))) a_nil)))))
theorem sc_is_name : FnScope ["thing"] ["thing"] (defScope (top 29)) := ⟨rfl, rfl, rfl, by decide +kernel, rfl, by decide +kernel, by decide +kernel⟩
theorem ok_is_name (M : Mg g K mg) (hK : K = g.K) : FnT P w K mg base g 2 "is_name" c_is_name := by
  refine FnT.of (N := ["thing"]) (ps := ["thing"]) (k := 1) M.f_is_name sc_is_name hK (fun _ _ _ _ _ _ us hl => match us, hl with | [_], _ => rfl) fun f cdv A outer sh H E c hp => ?_
  exact (s_one (s_ret (e_and (e_call ((ok_is_value M hK).mono (by decide)) c (a_cons (e_var 0) a_nil)) (e_one (e_cmp (o_nin c) (e_var 0) (e_gt c M.g_RESERVED))))))
theorem sc_is_values : FnScope ["thing", "one"] ["thing"] (defScope (top 30)) := ⟨rfl, rfl, rfl, by decide +kernel, rfl, by decide +kernel, by decide +kernel⟩
theorem ok_is_values (M : Mg g K mg) (hK : K = g.K) : FnT P w K mg base g 2 "is_values" c_is_values := by
  refine FnT.of (N := ["thing", "one"]) (ps := ["thing"]) (k := 1) M.f_is_values sc_is_values hK (fun _ _ _ _ _ _ us hl => match us, hl with | [_], _ => rfl) fun f cdv A outer sh H E c hp => ?_
  exact (s_seq (s_if (t_bool (w_or (t_not (t_val (e_isi .tup c (e_var 0) M.n_isinstance M.n_tuple))) (w_one (t_not (t_ch o_le o_le e_int (e_blt (b_len c) M.n_len (a_cons (e_var 0) a_nil)) (e_gi M.g_MOST_VALUES)))))) (s_one (s_ret e_bl)) s_nil)
  (s_one (s_ret (e_and (e_blt (b_all c) M.n_all (a_cons (e_lc [("one", 1)] c sc_is_values.nd (i_any c (e_var 0)) (by kernel_rfl) (fun s2 H2 C2 l2 p2 => (g_name 1 sc_is_values.nd)) (fun s2 H2 C2 l2 p2 => ts_nil) (fun s2 H2 C2 l2 p2 => (e_call ((ok_is_value M hK).mono (by decide)) (c.blk s2 H2 _ (compEnvC _ l2 C2 _) p2) (a_cons (e_var 1) a_nil)))) a_nil)) (e_one (e_cmp (o_eq c) (e_bty (b_list c) M.n_list (a_cons (e_var 0) a_nil)) (e_sortset c (a_cons (e_var 0) a_nil) M.n_sorted M.n_set)))))))
theorem sc_is_column_form : FnScope ["thing"] ["thing"] (defScope (top 36)) := ⟨rfl, rfl, rfl, by decide +kernel, rfl, by decide +kernel, by decide +kernel⟩
theorem ok_is_column_form (M : Mg g K mg) (hK : K = g.K) : FnT P w K mg base g 3 "is_column_form" c_is_column_form := by
  refine FnT.of (N := ["thing"]) (ps := ["thing"]) (k := 2) M.f_is_column_form sc_is_column_form hK (fun _ _ _ _ _ _ us hl => match us, hl with | [_], _ => rfl) fun f cdv A outer sh H E c hp => ?_
  exact (s_seq (s_if (t_bool (w_or (t_not (t_val (e_isi .tup c (e_var 0) M.n_isinstance M.n_tuple))) (w_one (t_cmp (o_ne c) (e_blt (b_len c) M.n_len (a_cons (e_var 0) a_nil)) e_int)))) (s_one (s_ret e_bl)) s_nil)
  (s_one (s_ret (e_and (e_or (e_cmp o_is (e_ix c (e_var 0) e_int) e_non) (e_one (e_call ((ok_is_name M hK).mono (by decide)) c (a_cons (e_ix c (e_var 0) e_int) a_nil)))) (e_one (e_call ((ok_is_name M hK).mono (by decide)) c (a_cons (e_ix c (e_var 0) e_int) a_nil)))))))
theorem sc_is_call_form : FnScope ["thing", "depth", "word", "schema", "name", "terms", "one"] ["thing", "depth"] (defScope (top 37)) := ⟨rfl, rfl, rfl, by decide +kernel, rfl, by decide +kernel, by decide +kernel⟩
theorem ok_is_call_form (M : Mg g K mg) (hK : K = g.K) : ∀ n : Nat, FnT P w K mg base g (3 + n) "is_call_form" (c_is_call_form n)
  | 0 => FnT.bad (ps := ["thing", "depth"]) M.f_is_call_form (fun _ _ _ _ _ _ us hl => match us, hl with | [_, _], _ => rfl)
  | n + 1 => by
    have ih := ok_is_call_form M hK n
    refine FnT.of (N := ["thing", "depth", "word", "schema", "name", "terms", "one"]) (ps := ["thing", "depth"]) (k := 3 + n) M.f_is_call_form sc_is_call_form hK (fun _ _ _ _ _ _ us hl => match us, hl with | [_, _], _ => rfl) fun f cdv A outer sh H E c hp => ?_
    exact (s_seq (s_if (t_bool (w_or (t_not (t_val (e_isi .tup c (e_var 0) M.n_isinstance M.n_tuple))) (w_or (t_cmp (o_ne c) (e_blt (b_len c) M.n_len (a_cons (e_var 0) a_nil)) e_int) (w_or (t_cmp (o_eq c) (e_var 1) e_int) (w_one (t_not (t_val (e_isi .str c (e_ix c (e_var 0) e_int) M.n_isinstance M.n_str)))))))) (s_one (s_ret e_bl)) s_nil)
  (s_seq (s_asg (vs := [2, 3, 4, 5]) (e_var 0) (g_tuph c (gs_cons (g_name 2 sc_is_call_form.nd) (gs_cons (g_name 3 sc_is_call_form.nd) (gs_cons (g_name 4 sc_is_call_form.nd) (gs_cons (g_name 5 sc_is_call_form.nd) gs_nil))))))
  (s_seq (s_if (t_bool (w_or (t_cmp (o_ne c) (e_var 2) e_str) (w_or (t_not (t_bool (w_or (t_cmp o_is (e_var 3) e_non) (w_one (t_val (e_call ((ok_is_name M hK).mono (by omega)) c (a_cons (e_var 3) a_nil))))))) (w_one (t_not (t_val (e_call ((ok_is_name M hK).mono (by omega)) c (a_cons (e_var 4) a_nil)))))))) (s_one (s_ret e_bl)) s_nil)
  (s_seq (s_if (t_bool (w_or (t_not (t_val (e_isi .tup c (e_var 5) M.n_isinstance M.n_tuple))) (w_one (t_not (t_ch o_le o_le e_int (e_blt (b_len c) M.n_len (a_cons (e_var 5) a_nil)) e_int))))) (s_one (s_ret e_bl)) s_nil)
  (s_one (s_ret (e_blt (b_all c) M.n_all (a_cons (e_lc [("one", 6)] c sc_is_call_form.nd (i_any c (e_var 5)) (by kernel_rfl) (fun s3 H3 C3 l3 p3 => (g_name 6 sc_is_call_form.nd)) (fun s3 H3 C3 l3 p3 => ts_nil) (fun s3 H3 C3 l3 p3 => (e_or (e_call ((ok_is_column_form M hK).mono (by omega)) (c.blk s3 H3 _ (compEnvC _ l3 C3 _) p3) (a_cons (e_var 6) a_nil)) (e_or (e_call ((ok_is_value M hK).mono (by omega)) (c.blk s3 H3 _ (compEnvC _ l3 C3 _) p3) (a_cons (e_var 6) a_nil)) (e_one (e_call ih (c.blk s3 H3 _ (compEnvC _ l3 C3 _) p3) (a_cons (e_var 6) (a_cons (e_bin o_sub (e_var 1) e_int) a_nil)))))))) a_nil))))))))
theorem sc_is_told : FnScope ["thing", "label", "column", "name", "term"] ["thing"] (defScope (top 38)) := ⟨rfl, rfl, rfl, by decide +kernel, rfl, by decide +kernel, by decide +kernel⟩
theorem ok_is_told (M : Mg g K mg) (hK : K = g.K) : FnT P w K mg base g 16 "is_told" c_is_told := by
  refine FnT.of (N := ["thing", "label", "column", "name", "term"]) (ps := ["thing"]) (k := 15) M.f_is_told sc_is_told hK (fun _ _ _ _ _ _ us hl => match us, hl with | [_], _ => rfl) fun f cdv A outer sh H E c hp => ?_
  exact (s_seq (s_match (e_var 0) (c_case sc_is_told.nd (m_seq c (m_cons (m_val c) (m_cons (m_cap 1 ⟨rfl, by first | exact Or.inl rfl | exact Or.inr rfl, by first | exact .inl rfl | exact .inr rfl⟩) m_nil))) (s_one (s_ret (e_and (e_isi .tup c (e_var 0) M.n_isinstance M.n_tuple) (e_one (e_call ((ok_is_name M hK).mono (by decide)) c (a_cons (e_var 1) a_nil)))))) (c_case sc_is_told.nd (m_seq c (m_cons (m_val c) (m_cons (m_cap 2 ⟨rfl, by first | exact Or.inl rfl | exact Or.inr rfl, by first | exact .inl rfl | exact .inr rfl⟩) (m_cons (m_cap 3 ⟨rfl, by first | exact Or.inl rfl | exact Or.inr rfl, by first | exact .inl rfl | exact .inr rfl⟩) m_nil)))) (s_one (s_ret (e_and (e_isi .tup c (e_var 0) M.n_isinstance M.n_tuple) (e_and (e_call ((ok_is_column_form M hK).mono (by decide)) c (a_cons (e_var 2) a_nil)) (e_one (e_call ((ok_is_name M hK).mono (by decide)) c (a_cons (e_var 3) a_nil))))))) (c_case sc_is_told.nd (m_seq c (m_cons (m_val c) (m_cons (m_cap 4 ⟨rfl, by first | exact Or.inl rfl | exact Or.inr rfl, by first | exact .inl rfl | exact .inr rfl⟩) (m_cons (m_cap 3 ⟨rfl, by first | exact Or.inl rfl | exact Or.inr rfl, by first | exact .inl rfl | exact .inr rfl⟩) m_nil)))) (s_one (s_ret (e_and (e_isi .tup c (e_var 0) M.n_isinstance M.n_tuple) (e_and (e_or (e_call ((ok_is_value M hK).mono (by decide)) c (a_cons (e_var 4) a_nil)) (e_one (e_call ((ok_is_call_form M hK 12).mono (by decide)) c (a_cons (e_var 4) (a_cons (e_gi M.g_DEPTH) a_nil))))) (e_one (e_call ((ok_is_name M hK).mono (by decide)) c (a_cons (e_var 3) a_nil))))))) c_nil))))
  (s_one (s_ret e_bl)))
theorem sc_is_source : FnScope ["thing"] ["thing"] (defScope (top 39)) := ⟨rfl, rfl, rfl, by decide +kernel, rfl, by decide +kernel, by decide +kernel⟩
theorem ok_is_source (M : Mg g K mg) (hK : K = g.K) : FnT P w K mg base g 3 "is_source" c_is_source := by
  refine FnT.of (N := ["thing"]) (ps := ["thing"]) (k := 2) M.f_is_source sc_is_source hK (fun _ _ _ _ _ _ us hl => match us, hl with | [_], _ => rfl) fun f cdv A outer sh H E c hp => ?_
  exact (s_seq (s_if (t_bool (w_or (t_not (t_val (e_isi .tup c (e_var 0) M.n_isinstance M.n_tuple))) (w_or (t_cmp (o_ne c) (e_blt (b_len c) M.n_len (a_cons (e_var 0) a_nil)) e_int) (w_one (t_not (t_bool (w_or (t_cmp o_is (e_ix c (e_var 0) e_int) e_non) (w_one (t_val (e_call ((ok_is_name M hK).mono (by decide)) c (a_cons (e_ix c (e_var 0) e_int) a_nil))))))))))) (s_one (s_ret e_bl)) s_nil)
  (s_one (s_ret (e_and (e_call ((ok_is_name M hK).mono (by decide)) c (a_cons (e_ix c (e_var 0) e_int) a_nil)) (e_one (e_call ((ok_is_name M hK).mono (by decide)) c (a_cons (e_ix c (e_var 0) e_int) a_nil)))))))
theorem sc_is_condition : FnScope ["thing", "column", "other", "values"] ["thing"] (defScope (top 40)) := ⟨rfl, rfl, rfl, by decide +kernel, rfl, by decide +kernel, by decide +kernel⟩
theorem ok_is_condition (M : Mg g K mg) (hK : K = g.K) : FnT P w K mg base g 4 "is_condition" c_is_condition := by
  refine FnT.of (N := ["thing", "column", "other", "values"]) (ps := ["thing"]) (k := 3) M.f_is_condition sc_is_condition hK (fun _ _ _ _ _ _ us hl => match us, hl with | [_], _ => rfl) fun f cdv A outer sh H E c hp => ?_
  exact (s_seq (s_match (e_var 0) (c_case sc_is_condition.nd (m_seq c (m_cons (m_val c) (m_cons (m_cap 1 ⟨rfl, by first | exact Or.inl rfl | exact Or.inr rfl, by first | exact .inl rfl | exact .inr rfl⟩) (m_cons (m_cap 2 ⟨rfl, by first | exact Or.inl rfl | exact Or.inr rfl, by first | exact .inl rfl | exact .inr rfl⟩) m_nil)))) (s_one (s_ret (e_and (e_isi .tup c (e_var 0) M.n_isinstance M.n_tuple) (e_and (e_call ((ok_is_column_form M hK).mono (by decide)) c (a_cons (e_var 1) a_nil)) (e_one (e_call ((ok_is_column_form M hK).mono (by decide)) c (a_cons (e_var 2) a_nil))))))) (c_case sc_is_condition.nd (m_seq c (m_cons (m_val c) (m_cons (m_cap 1 ⟨rfl, by first | exact Or.inl rfl | exact Or.inr rfl, by first | exact .inl rfl | exact .inr rfl⟩) (m_cons (m_cap 3 ⟨rfl, by first | exact Or.inl rfl | exact Or.inr rfl, by first | exact .inl rfl | exact .inr rfl⟩) m_nil)))) (s_one (s_ret (e_and (e_isi .tup c (e_var 0) M.n_isinstance M.n_tuple) (e_and (e_call ((ok_is_column_form M hK).mono (by decide)) c (a_cons (e_var 1) a_nil)) (e_one (e_call ((ok_is_values M hK).mono (by decide)) c (a_cons (e_var 3) a_nil))))))) c_nil)))
  (s_one (s_ret e_bl)))
theorem dsp_1_ok (M : Mg g K mg) (hK : K = g.K) : ∀ j cl, dsp_1 j = some cl → FnV P w K mg base g 16 (g.fa j) cl ∧ PySem.W.keepIn K (.ref (g.fa j)) = true := by
  intro j cl h
  unfold dsp_1 at h
  split at h
  · cases h; exact ((ok_is_condition M hK).mono (by decide)).v 23 M.v_is_condition
  · cases h; exact ((ok_is_told M hK).mono (by decide)).v 24 M.v_is_told
  · cases h; exact ((ok_is_source M hK).mono (by decide)).v 25 M.v_is_source
  · cases h
theorem sc_is_row_of : FnScope ["thing", "least", "most", "is_part", "one"] ["thing", "least", "most", "is_part"] (defScope (top 41)) := ⟨rfl, rfl, rfl, by decide +kernel, rfl, by decide +kernel, by decide +kernel⟩
theorem ok_is_row_of (M : Mg g K mg) (hK : K = g.K) : FnT P w K mg base g 17 "is_row_of" c_is_row_of := by
  refine FnT.of (N := ["thing", "least", "most", "is_part", "one"]) (ps := ["thing", "least", "most", "is_part"]) (k := 16) M.f_is_row_of sc_is_row_of hK (fun _ _ _ _ _ _ us hl => match us, hl with | [_, _, _, _], _ => rfl) fun f cdv A outer sh H E c hp => ?_
  exact (s_one (s_ret (e_and (e_isi .tup c (e_var 0) M.n_isinstance M.n_tuple) (e_and (e_ch o_le o_le (e_var 1) (e_blt (b_len c) M.n_len (a_cons (e_var 0) a_nil)) (e_var 2)) (e_one (e_blt (b_all c) M.n_all (a_cons (e_lc [("one", 4)] c sc_is_row_of.nd (i_any c (e_var 0)) (by kernel_rfl) (fun s4 H4 C4 l4 p4 => (g_name 4 sc_is_row_of.nd)) (fun s4 H4 C4 l4 p4 => ts_nil) (fun s4 H4 C4 l4 p4 => (e_callL 3 (c.blk s4 H4 _ (compEnvC _ l4 C4 _) p4) (fun j cl h => (dsp_1_ok M hK j cl h).imp (fun F => F.mono (by decide)) id) (a_cons (e_var 4) a_nil)))) a_nil)))))))
theorem sc_is_statement : FnScope ["thing", "source"] ["thing"] (defScope (top 42)) := ⟨rfl, rfl, rfl, by decide +kernel, rfl, by decide +kernel, by decide +kernel⟩
theorem ok_is_statement (M : Mg g K mg) (hK : K = g.K) : FnT P w K mg base g 18 "is_statement" c_is_statement := by
  refine FnT.of (N := ["thing", "source"]) (ps := ["thing"]) (k := 17) M.f_is_statement sc_is_statement hK (fun _ _ _ _ _ _ us hl => match us, hl with | [_], _ => rfl) fun f cdv A outer sh H E c hp => ?_
  exact (s_seq (s_if (t_bool (w_or (t_not (t_val (e_isi .tup c (e_var 0) M.n_isinstance M.n_tuple))) (w_or (t_cmp (o_ne c) (e_blt (b_len c) M.n_len (a_cons (e_var 0) a_nil)) e_int) (w_one (t_not (t_val (e_isi .bl c (e_ix c (e_var 0) e_int) M.n_isinstance M.n_bool))))))) (s_one (s_ret e_bl)) s_nil)
  (s_seq (s_if (t_bool (w_or (t_not (t_val (e_call ((ok_is_row_of M hK).mono (by decide)) c (a_cons (e_ix c (e_var 0) e_int) (a_cons e_int (a_cons (e_gi M.g_MOST_TOLD) (a_cons (e_gfn 24 M.v_is_told) a_nil))))))) (w_one (t_not (t_val (e_call ((ok_is_row_of M hK).mono (by decide)) c (a_cons (e_ix c (e_var 0) e_int) (a_cons e_int (a_cons (e_gi M.g_MOST_SOURCES) (a_cons (e_gfn 25 M.v_is_source) a_nil)))))))))) (s_one (s_ret e_bl)) s_nil)
  (s_seq (s_if (t_cmp o_lt (e_blt (b_lenX c) M.n_len (a_cons (e_dc [("source", 1)] c sc_is_statement.nd (i_any c (e_ix c (e_var 0) e_int)) (by kernel_rfl) (fun s5 H5 C5 l5 p5 => (g_name 1 sc_is_statement.nd)) (fun s5 H5 C5 l5 p5 => ts_nil) (fun s5 H5 C5 l5 p5 => (e_ix (c.blk s5 H5 _ (compEnvC _ l5 C5 _) p5) (e_var 1) e_int)) (fun s5 H5 C5 l5 p5 => e_bl)) a_nil)) (e_blt (b_len c) M.n_len (a_cons (e_ix c (e_var 0) e_int) a_nil))) (s_one (s_ret e_bl)) s_nil)
  (s_one (s_ret (e_call ((ok_is_row_of M hK).mono (by decide)) c (a_cons (e_ix c (e_var 0) e_int) (a_cons e_int (a_cons (e_gi M.g_MOST_CONDITIONS) (a_cons (e_gfn 23 M.v_is_condition) a_nil))))))))))
theorem sc_write_column : FnScope ["column"] ["column"] (defScope (top 45)) := ⟨rfl, rfl, rfl, by decide +kernel, rfl, by decide +kernel, by decide +kernel⟩
theorem ok_write_column (M : Mg g K mg) (hK : K = g.K) : FnT P w K mg base g 1 "write_column" c_write_column := by
  refine FnT.of (N := ["column"]) (ps := ["column"]) (k := 0) M.f_write_column sc_write_column hK (fun _ _ _ _ _ _ us hl => match us, hl with | [_], _ => rfl) fun f cdv A outer sh H E c hp => ?_
  exact (s_one (s_ret (e_ife (t_cmp o_is (e_ix c (e_var 0) e_int) e_non) (e_ix c (e_var 0) e_int) (e_fs (fs := [unE fmtD (opE ixD (vE 0) (cE (.int 0))), cE (.str "."), unE fmtD (opE ixD (vE 0) (cE (.int 1)))]) (j_cons (e_fmt (e_ix c (e_var 0) e_int)) (j_cons e_str (j_cons (e_fmt (e_ix c (e_var 0) e_int)) j_nil)))))))
theorem sc_write_term : FnScope ["term", "inner", "one"] ["term"] (defScope (top 46)) := ⟨rfl, rfl, rfl, by decide +kernel, rfl, by decide +kernel, by decide +kernel⟩
theorem ok_write_term (M : Mg g K mg) (hK : K = g.K) : ∀ n : Nat, FnT P w K mg base g (1 + n) "write_term" (c_write_term n)
  | 0 => FnT.bad (ps := ["term"]) M.f_write_term (fun _ _ _ _ _ _ us hl => match us, hl with | [_], _ => rfl)
  | n + 1 => by
    have ih := ok_write_term M hK n
    refine FnT.of (N := ["term", "inner", "one"]) (ps := ["term"]) (k := 1 + n) M.f_write_term sc_write_term hK (fun _ _ _ _ _ _ us hl => match us, hl with | [_], _ => rfl) fun f cdv A outer sh H E c hp => ?_
    exact (s_seq (s_if (t_val (e_isi .str c (e_var 0) M.n_isinstance M.n_str)) (s_one (s_ret (e_fs (fs := [cE (.str "'"), unE fmtD (vE 0), cE (.str "'")]) (j_cons e_str (j_cons (e_fmt (e_var 0)) (j_cons e_str j_nil)))))) s_nil)
  (s_seq (s_if (t_cmp (o_eq c) (e_blt (b_len c) M.n_len (a_cons (e_var 0) a_nil)) e_int) (s_one (s_ret (e_call ((ok_write_column M hK).mono (by omega)) c (a_cons (e_var 0) a_nil)))) s_nil)
  (s_seq (s_set 1 sc_write_term.nd (e_join c e_str (e_lc [("one", 2)] c sc_write_term.nd (i_any c (e_ix c (e_var 0) e_int)) (by kernel_rfl) (fun s6 H6 C6 l6 p6 => (g_name 2 sc_write_term.nd)) (fun s6 H6 C6 l6 p6 => ts_nil) (fun s6 H6 C6 l6 p6 => (e_call ih (c.blk s6 H6 _ (compEnvC _ l6 C6 _) p6) (a_cons (e_var 2) a_nil))))))
  (s_one (s_ret (e_fs (fs := [unE fmtD (callE c_write_column (kA (slE (vE 0) (sO (cE (.int 1))) (sO (cE (.int 3)))) (nA))), cE (.str "("), unE fmtD (vE 1), cE (.str ")")]) (j_cons (e_fmt (e_call ((ok_write_column M hK).mono (by omega)) c (a_cons (e_sl c (e_var 0) (p_some e_int) (p_some e_int)) a_nil))) (j_cons e_str (j_cons (e_fmt (e_var 1)) (j_cons e_str j_nil))))))))))
theorem sc_write_told : FnScope ["told", "label", "own", "name"] ["told"] (defScope (top 47)) := ⟨rfl, rfl, rfl, by decide +kernel, rfl, by decide +kernel, by decide +kernel⟩
theorem ok_write_told (M : Mg g K mg) (hK : K = g.K) : FnT P w K mg base g 14 "write_told" c_write_told := by
  refine FnT.of (N := ["told", "label", "own", "name"]) (ps := ["told"]) (k := 13) M.f_write_told sc_write_told hK (fun _ _ _ _ _ _ us hl => match us, hl with | [_], _ => rfl) fun f cdv A outer sh H E c hp => ?_
  exact (s_seq (s_match (e_var 0) (c_case sc_write_told.nd (m_seq c (m_cons (m_val c) (m_cons (m_cap 1 ⟨rfl, by first | exact Or.inl rfl | exact Or.inr rfl, by first | exact .inl rfl | exact .inr rfl⟩) m_nil))) (s_one (s_ret (e_fs (fs := [unE fmtD (vE 1), cE (.str ".*")]) (j_cons (e_fmt (e_var 1)) (j_cons e_str j_nil))))) (c_guard sc_write_told.nd (m_seq c (m_cons (m_val c) (m_cons (m_seq c (m_cons (m_cap 1 ⟨rfl, by first | exact Or.inl rfl | exact Or.inr rfl, by first | exact .inl rfl | exact .inr rfl⟩) (m_cons (m_cap 2 ⟨rfl, by first | exact Or.inl rfl | exact Or.inr rfl, by first | exact .inl rfl | exact .inr rfl⟩) m_nil))) (m_cons (m_cap 3 ⟨rfl, by first | exact Or.inl rfl | exact Or.inr rfl, by first | exact .inl rfl | exact .inr rfl⟩) m_nil)))) (t_cmp (o_eq c) (e_var 2) (e_var 3)) (s_one (s_ret (e_call ((ok_write_column M hK).mono (by decide)) c (a_cons (e_tup (a_cons (e_var 1) (a_cons (e_var 2) a_nil))) a_nil)))) c_nil)))
  (s_one (s_ret (e_fs (fs := [unE fmtD (callE (c_write_term 12) (kA (opE ixD (vE 0) (cE (.int 1))) (nA))), cE (.str " as "), unE fmtD (opE ixD (vE 0) (cE (.int 2)))]) (j_cons (e_fmt (e_call ((ok_write_term M hK 12).mono (by decide)) c (a_cons (e_ix c (e_var 0) e_int) a_nil))) (j_cons e_str (j_cons (e_fmt (e_ix c (e_var 0) e_int)) j_nil)))))))
theorem sc_write_source : FnScope ["source", "place"] ["source"] (defScope (top 48)) := ⟨rfl, rfl, rfl, by decide +kernel, rfl, by decide +kernel, by decide +kernel⟩
theorem ok_write_source (M : Mg g K mg) (hK : K = g.K) : FnT P w K mg base g 2 "write_source" c_write_source := by
  refine FnT.of (N := ["source", "place"]) (ps := ["source"]) (k := 1) M.f_write_source sc_write_source hK (fun _ _ _ _ _ _ us hl => match us, hl with | [_], _ => rfl) fun f cdv A outer sh H E c hp => ?_
  exact (s_seq (s_set 1 sc_write_source.nd (e_call ((ok_write_column M hK).mono (by decide)) c (a_cons (e_sl c (e_var 0) p_no (p_some e_int)) a_nil)))
  (s_one (s_ret (e_ife (t_cmp (o_eq c) (e_ix c (e_var 0) e_int) (e_ix c (e_var 0) e_int)) (e_var 1) (e_fs (fs := [unE fmtD (vE 1), cE (.str " "), unE fmtD (opE ixD (vE 0) (cE (.int 2)))]) (j_cons (e_fmt (e_var 1)) (j_cons e_str (j_cons (e_fmt (e_ix c (e_var 0) e_int)) j_nil))))))))
theorem sc_write_values : FnScope ["values", "inner", "value"] ["values"] (defScope (top 49)) := ⟨rfl, rfl, rfl, by decide +kernel, rfl, by decide +kernel, by decide +kernel⟩
theorem ok_write_values (M : Mg g K mg) (hK : K = g.K) : FnT P w K mg base g 1 "write_values" c_write_values := by
  refine FnT.of (N := ["values", "inner", "value"]) (ps := ["values"]) (k := 0) M.f_write_values sc_write_values hK (fun _ _ _ _ _ _ us hl => match us, hl with | [_], _ => rfl) fun f cdv A outer sh H E c hp => ?_
  exact (s_seq (s_set 1 sc_write_values.nd (e_join c e_str (e_lc [("value", 2)] c sc_write_values.nd (i_any c (e_var 0)) (by kernel_rfl) (fun s7 H7 C7 l7 p7 => (g_name 2 sc_write_values.nd)) (fun s7 H7 C7 l7 p7 => ts_nil) (fun s7 H7 C7 l7 p7 => (e_fs (fs := [cE (.str "'"), unE fmtD (vE 2), cE (.str "'")]) (j_cons e_str (j_cons (e_fmt (e_var 2)) (j_cons e_str j_nil))))))))
  (s_one (s_ret (e_fs (fs := [cE (.str "("), unE fmtD (vE 1), cE (.str ")")]) (j_cons e_str (j_cons (e_fmt (e_var 1)) (j_cons e_str j_nil)))))))
theorem sc_write_condition : FnScope ["condition"] ["condition"] (defScope (top 50)) := ⟨rfl, rfl, rfl, by decide +kernel, rfl, by decide +kernel, by decide +kernel⟩
theorem ok_write_condition (M : Mg g K mg) (hK : K = g.K) : FnT P w K mg base g 2 "write_condition" c_write_condition := by
  refine FnT.of (N := ["condition"]) (ps := ["condition"]) (k := 1) M.f_write_condition sc_write_condition hK (fun _ _ _ _ _ _ us hl => match us, hl with | [_], _ => rfl) fun f cdv A outer sh H E c hp => ?_
  exact (s_seq (s_if (t_cmp (o_eq c) (e_ix c (e_var 0) e_int) e_str) (s_one (s_ret (e_fs (fs := [unE fmtD (callE c_write_column (kA (opE ixD (vE 0) (cE (.int 1))) (nA))), cE (.str " = "), unE fmtD (callE c_write_column (kA (opE ixD (vE 0) (cE (.int 2))) (nA)))]) (j_cons (e_fmt (e_call ((ok_write_column M hK).mono (by decide)) c (a_cons (e_ix c (e_var 0) e_int) a_nil))) (j_cons e_str (j_cons (e_fmt (e_call ((ok_write_column M hK).mono (by decide)) c (a_cons (e_ix c (e_var 0) e_int) a_nil))) j_nil)))))) s_nil)
  (s_one (s_ret (e_fs (fs := [unE fmtD (callE c_write_column (kA (opE ixD (vE 0) (cE (.int 1))) (nA))), cE (.str " in "), unE fmtD (callE c_write_values (kA (opE ixD (vE 0) (cE (.int 2))) (nA)))]) (j_cons (e_fmt (e_call ((ok_write_column M hK).mono (by decide)) c (a_cons (e_ix c (e_var 0) e_int) a_nil))) (j_cons e_str (j_cons (e_fmt (e_call ((ok_write_values M hK).mono (by decide)) c (a_cons (e_ix c (e_var 0) e_int) a_nil))) j_nil)))))))
theorem sc_write : FnScope ["statement", "distinct", "told", "sources", "conditions", "found", "one"] ["statement"] (defScope (top 51)) := ⟨rfl, rfl, rfl, by decide +kernel, rfl, by decide +kernel, by decide +kernel⟩
theorem ok_write (M : Mg g K mg) (hK : K = g.K) : FnT P w K mg base g 15 "write" c_write := by
  refine FnT.of (N := ["statement", "distinct", "told", "sources", "conditions", "found", "one"]) (ps := ["statement"]) (k := 14) M.f_write sc_write hK (fun _ _ _ _ _ _ us hl => match us, hl with | [_], _ => rfl) fun f cdv A outer sh H E c hp => ?_
  exact (s_seq (s_asg (vs := [1, 2, 3, 4]) (e_var 0) (g_tuph c (gs_cons (g_name 1 sc_write.nd) (gs_cons (g_name 2 sc_write.nd) (gs_cons (g_name 3 sc_write.nd) (gs_cons (g_name 4 sc_write.nd) gs_nil))))))
  (s_seq (s_set 5 sc_write.nd (e_ife (t_val (e_var 1)) e_str e_str))
  (s_seq (s_set 5 sc_write.nd (e_bin (o_add c) (e_var 5) (e_join c e_str (e_lc [("one", 6)] c sc_write.nd (i_any c (e_var 2)) (by kernel_rfl) (fun s8 H8 C8 l8 p8 => (g_name 6 sc_write.nd)) (fun s8 H8 C8 l8 p8 => ts_nil) (fun s8 H8 C8 l8 p8 => (e_call ((ok_write_told M hK).mono (by decide)) (c.blk s8 H8 _ (compEnvC _ l8 C8 _) p8) (a_cons (e_var 6) a_nil)))))))
  (s_seq (s_set 5 sc_write.nd (e_bin (o_add c) (e_bin (o_add c) (e_var 5) e_str) (e_join c e_str (e_lc [("one", 6)] c sc_write.nd (i_any c (e_var 3)) (by kernel_rfl) (fun s9 H9 C9 l9 p9 => (g_name 6 sc_write.nd)) (fun s9 H9 C9 l9 p9 => ts_nil) (fun s9 H9 C9 l9 p9 => (e_call ((ok_write_source M hK).mono (by decide)) (c.blk s9 H9 _ (compEnvC _ l9 C9 _) p9) (a_cons (e_var 6) a_nil)))))))
  (s_one (s_ret (e_bin (o_add c) (e_bin (o_add c) (e_var 5) (e_ife (t_cmp (o_ne c) (e_var 4) (e_tup a_nil)) e_str e_str)) (e_join c e_str (e_lc [("one", 6)] c sc_write.nd (i_any c (e_var 4)) (by kernel_rfl) (fun s10 H10 C10 l10 p10 => (g_name 6 sc_write.nd)) (fun s10 H10 C10 l10 p10 => ts_nil) (fun s10 H10 C10 l10 p10 => (e_call ((ok_write_condition M hK).mono (by decide)) (c.blk s10 H10 _ (compEnvC _ l10 C10 _) p10) (a_cons (e_var 6) a_nil))))))))))))
theorem sc_is_letter : FnScope ["sign"] ["sign"] (defScope (top 52)) := ⟨rfl, rfl, rfl, by decide +kernel, rfl, by decide +kernel, by decide +kernel⟩
theorem ok_is_letter (M : Mg g K mg) (hK : K = g.K) : FnT P w K mg base g 1 "is_letter" c_is_letter := by
  refine FnT.of (N := ["sign"]) (ps := ["sign"]) (k := 0) M.f_is_letter sc_is_letter hK (fun _ _ _ _ _ _ us hl => match us, hl with | [_], _ => rfl) fun f cdv A outer sh H E c hp => ?_
  exact (s_one (s_ret (e_ch o_le o_le e_str (e_var 0) e_str)))
theorem sc_words_in : FnScope ["text", "found", "place", "end"] ["text"] (defScope (top 53)) := ⟨rfl, rfl, rfl, by decide +kernel, rfl, by decide +kernel, by decide +kernel⟩
theorem ok_words_in (M : Mg g K mg) (hK : K = g.K) : FnT P w K mg base g 2 "words_in" c_words_in := by
  refine FnT.of (N := ["text", "found", "place", "end"]) (ps := ["text"]) (k := 1) M.f_words_in sc_words_in hK (fun _ _ _ _ _ _ us hl => match us, hl with | [_], _ => rfl) fun f cdv A outer sh H E c hp => ?_
  exact (s_seq (by first | exact (s_par2 1 2 c sc_words_in.nd (a_cons (e_new a_nil) (a_cons e_int a_nil))) | exact (s_asg (vs := [1, 2]) (e_tup (a_cons (e_new a_nil) (a_cons e_int a_nil))) (g_tup c (gs_cons (g_name 1 sc_words_in.nd) (gs_cons (g_name 2 sc_words_in.nd) gs_nil)))))
  (s_seq (s_while (n := 1000) hp (t_cmp o_lt (e_var 2) (e_blt (b_len c) M.n_len (a_cons (e_var 0) a_nil))) (s_seq (s_set 3 sc_words_in.nd (e_bin (o_add c) (e_var 2) e_int))
    (s_seq (s_if (t_val (e_call ((ok_is_letter M hK).mono (by decide)) c (a_cons (e_ix c (e_var 0) (e_var 2)) a_nil))) (s_one (s_while (n := 1000) hp (t_bool (w_and (t_cmp o_lt (e_var 3) (e_blt (b_len c) M.n_len (a_cons (e_var 0) a_nil))) (w_one (t_val (e_call ((ok_is_letter M hK).mono (by decide)) c (a_cons (e_ix c (e_var 0) (e_var 3)) a_nil)))))) (s_one (s_aug 3 sc_words_in.nd ip_add e_int)))) (s_one (s_if (t_cmp (o_eq c) (e_ix c (e_var 0) (e_var 2)) e_str) (s_seq (s_while (n := 1000) hp (t_bool (w_and (t_cmp o_lt (e_var 3) (e_blt (b_len c) M.n_len (a_cons (e_var 0) a_nil))) (w_one (t_val (e_call ((ok_is_letter M hK).mono (by decide)) c (a_cons (e_ix c (e_var 0) (e_var 3)) a_nil)))))) (s_one (s_aug 3 sc_words_in.nd ip_add e_int)))
        (s_one (s_aug 3 sc_words_in.nd ip_add e_int))) s_nil)))
    (s_seq (s_expr (e_app c (e_var 1) (a_cons (e_sl c (e_var 0) (p_some (e_var 2)) (p_some (e_var 3))) a_nil)))
    (s_one (s_set 2 sc_words_in.nd (e_var 3)))))))
  (s_one (s_ret (e_frz (e_var 1))))))
theorem sc_Reader____init__ : FnScope ["self", "text"] ["self", "text"] (defScope (mthOf (top 54) 0)) := ⟨rfl, rfl, rfl, by decide +kernel, rfl, by decide +kernel, by decide +kernel⟩
theorem ok_Reader____init__ (M : Mg g K mg) (hK : K = g.K) : FnK P w K mg base g 3 22 "Reader" c_Reader____init__ := by
  refine FnK.of (N := ["self", "text"]) (ps := ["self", "text"]) (k := 2) M.f_Reader____init__ sc_Reader____init__ hK (fun _ _ _ _ _ _ us hl => match us, hl with | [_, _], _ => rfl) fun f cdv A outer sh H E c hp => ?_
  exact (s_seq (s_if (t_not (t_val (e_isi .str c (e_var 1) M.n_isinstance M.n_str))) (s_one (s_raise (M.ex.ex 6 _ rfl) c (e_gs M.g_DOUBT))) s_nil)
  (s_seq (s_fld 22 c (by rw [← hK]; exact M.cl_Reader) (by rw [← hK]; exact M.na_Reader_words) (e_var 0) (e_call ((ok_words_in M hK).mono (by decide)) c (a_cons (e_var 1) a_nil)))
  (s_one (s_fld 22 c (by rw [← hK]; exact M.cl_Reader) (by rw [← hK]; exact M.na_Reader_place) (e_var 0) e_int))))
theorem sc_Reader__next_word : FnScope ["self"] ["self"] (defScope (mthOf (top 54) 1)) := ⟨rfl, rfl, rfl, by decide +kernel, rfl, by decide +kernel, by decide +kernel⟩
theorem ok_Reader__next_word (M : Mg g K mg) (hK : K = g.K) : FnM P w K mg base g 1 22 "next_word" c_Reader__next_word := by
  refine FnM.of (N := ["self"]) (ps := ["self"]) (k := 0) M.f_Reader__next_word sc_Reader__next_word hK (fun _ _ _ _ _ _ us hl => match us, hl with | [_], _ => rfl) fun f cdv A outer sh H E c hp => ?_
  exact (s_one (s_ret (e_ife (t_cmp o_lt (e_fld 22 c (by rw [← hK]; exact M.cl_Reader) (by rw [← hK]; exact M.na_Reader_place) (e_var 0)) (e_blt (b_len c) M.n_len (a_cons (e_fld 22 c (by rw [← hK]; exact M.cl_Reader) (by rw [← hK]; exact M.na_Reader_words) (e_var 0)) a_nil))) (e_ix c (e_fld 22 c (by rw [← hK]; exact M.cl_Reader) (by rw [← hK]; exact M.na_Reader_words) (e_var 0)) (e_fld 22 c (by rw [← hK]; exact M.cl_Reader) (by rw [← hK]; exact M.na_Reader_place) (e_var 0))) e_str)))
theorem sc_Reader__take : FnScope ["self", "word"] ["self"] (defScope (mthOf (top 54) 2)) := ⟨rfl, rfl, rfl, by decide +kernel, rfl, by decide +kernel, by decide +kernel⟩
theorem ok_Reader__take (M : Mg g K mg) (hK : K = g.K) : FnM P w K mg base g 2 22 "take" c_Reader__take := by
  refine FnM.of (N := ["self", "word"]) (ps := ["self"]) (k := 1) M.f_Reader__take sc_Reader__take hK (fun _ _ _ _ _ _ us hl => match us, hl with | [_], _ => rfl) fun f cdv A outer sh H E c hp => ?_
  exact (s_seq (s_set 1 sc_Reader__take.nd (e_meth0 ((ok_Reader__next_word M hK).mono (by decide)) c (e_var 0)))
  (s_seq (s_fldaug 22 c (by rw [← hK]; exact M.cl_Reader) (by rw [← hK]; exact M.na_Reader_place) in_add (e_var 0) e_int)
  (s_one (s_ret (e_var 1)))))
theorem sc_Reader__skip : FnScope ["self", "words", "word"] ((["self"] : List Str) ++ (["words"] : List Str)) (defScope (mthOf (top 54) 3)) := ⟨rfl, rfl, rfl, by decide +kernel, rfl, by decide +kernel, by decide +kernel⟩
theorem ok_Reader__skip (M : Mg g K mg) (hK : K = g.K) : FnM P w K mg base g 3 22 "skip" c_Reader__skip := by
  refine FnM.star (N := ["self", "words", "word"]) (ps := ["self"]) (pv := "words") (k := 2) M.f_Reader__skip sc_Reader__skip hK (fun kV doc pm an cdv ct => StX.bind_star1 (B := fun vs => bindArgs (PySem.W.fnOf "skip" "Reader.skip" (defArgs (mthOf (top 54) 3)) (defBody (mthOf (top 54) 3)) (defScope (mthOf (top 54) 3)) .none kV doc pm an cdv ct) ⟨vs, []⟩) (fun a => rfl) (fun a r rs => rfl)) fun f cdv A outer sh H E c hp => ?_
  exact (s_one (s_for (vs := [2]) c hp (i_any c (e_var 1)) (g_name 2 sc_Reader__skip.nd) (s_one (s_if (t_cmp (o_ne c) (e_meth0 ((ok_Reader__take M hK).mono (by decide)) c (e_var 0)) (e_var 2)) (s_one (s_raise (M.ex.ex 6 _ rfl) c (e_gs M.g_DOUBT))) s_nil))))
theorem sc_Reader__comes : FnScope ["self", "words", "size"] ((["self"] : List Str) ++ (["words"] : List Str)) (defScope (mthOf (top 54) 4)) := ⟨rfl, rfl, rfl, by decide +kernel, rfl, by decide +kernel, by decide +kernel⟩
theorem ok_Reader__comes (M : Mg g K mg) (hK : K = g.K) : FnM P w K mg base g 1 22 "comes" c_Reader__comes := by
  refine FnM.star (N := ["self", "words", "size"]) (ps := ["self"]) (pv := "words") (k := 0) M.f_Reader__comes sc_Reader__comes hK (fun kV doc pm an cdv ct => StX.bind_star1 (B := fun vs => bindArgs (PySem.W.fnOf "comes" "Reader.comes" (defArgs (mthOf (top 54) 4)) (defBody (mthOf (top 54) 4)) (defScope (mthOf (top 54) 4)) .none kV doc pm an cdv ct) ⟨vs, []⟩) (fun a => rfl) (fun a r rs => rfl)) fun f cdv A outer sh H E c hp => ?_
  exact (s_seq (s_set 2 sc_Reader__comes.nd (e_blt (b_len c) M.n_len (a_cons (e_var 1) a_nil)))
  (s_seq (s_if (t_cmp (o_ne c) (e_sl c (e_fld 22 c (by rw [← hK]; exact M.cl_Reader) (by rw [← hK]; exact M.na_Reader_words) (e_var 0)) (p_some (e_fld 22 c (by rw [← hK]; exact M.cl_Reader) (by rw [← hK]; exact M.na_Reader_place) (e_var 0))) (p_some (e_bin (o_add c) (e_fld 22 c (by rw [← hK]; exact M.cl_Reader) (by rw [← hK]; exact M.na_Reader_place) (e_var 0)) (e_var 2)))) (e_bty (b_list c) M.n_list (a_cons (e_var 1) a_nil))) (s_one (s_ret e_bl)) s_nil)
  (s_seq (s_fldaug 22 c (by rw [← hK]; exact M.cl_Reader) (by rw [← hK]; exact M.na_Reader_place) in_add (e_var 0) (e_var 2))
  (s_one (s_ret e_bl)))))
theorem sc_Reader__take_name : FnScope ["self", "word"] ["self"] (defScope (mthOf (top 54) 5)) := ⟨rfl, rfl, rfl, by decide +kernel, rfl, by decide +kernel, by decide +kernel⟩
theorem ok_Reader__take_name (M : Mg g K mg) (hK : K = g.K) : FnM P w K mg base g 3 22 "take_name" c_Reader__take_name := by
  refine FnM.of (N := ["self", "word"]) (ps := ["self"]) (k := 2) M.f_Reader__take_name sc_Reader__take_name hK (fun _ _ _ _ _ _ us hl => match us, hl with | [_], _ => rfl) fun f cdv A outer sh H E c hp => ?_
  exact (s_seq (s_set 1 sc_Reader__take_name.nd (e_meth0 ((ok_Reader__take M hK).mono (by decide)) c (e_var 0)))
  (s_seq (s_if (t_not (t_val (e_call ((ok_is_name M hK).mono (by decide)) c (a_cons (e_var 1) a_nil)))) (s_one (s_raise (M.ex.ex 6 _ rfl) c (e_gs M.g_DOUBT))) s_nil)
  (s_one (s_ret (e_var 1)))))
theorem sc_Reader__take_value : FnScope ["self", "word"] ["self"] (defScope (mthOf (top 54) 6)) := ⟨rfl, rfl, rfl, by decide +kernel, rfl, by decide +kernel, by decide +kernel⟩
theorem ok_Reader__take_value (M : Mg g K mg) (hK : K = g.K) : FnM P w K mg base g 3 22 "take_value" c_Reader__take_value := by
  refine FnM.of (N := ["self", "word"]) (ps := ["self"]) (k := 2) M.f_Reader__take_value sc_Reader__take_value hK (fun _ _ _ _ _ _ us hl => match us, hl with | [_], _ => rfl) fun f cdv A outer sh H E c hp => ?_
  exact (s_seq (s_set 1 sc_Reader__take_value.nd (e_meth0 ((ok_Reader__take M hK).mono (by decide)) c (e_var 0)))
  (s_seq (s_if (t_bool (w_or (t_cmp o_lt (e_blt (b_len c) M.n_len (a_cons (e_var 1) a_nil)) e_int) (w_or (t_cmp (o_ne c) (e_ix c (e_var 1) e_int) e_str) (w_one (t_cmp (o_ne c) (e_ix c (e_var 1) (e_neg e_int)) e_str))))) (s_one (s_raise (M.ex.ex 6 _ rfl) c (e_gs M.g_DOUBT))) s_nil)
  (s_one (s_ret (e_sl c (e_var 1) (p_some e_int) (p_some (e_neg e_int)))))))
theorem sc_Reader__take_column : FnScope ["self", "first"] ["self"] (defScope (mthOf (top 54) 7)) := ⟨rfl, rfl, rfl, by decide +kernel, rfl, by decide +kernel, by decide +kernel⟩
theorem ok_Reader__take_column (M : Mg g K mg) (hK : K = g.K) : FnM P w K mg base g 4 22 "take_column" c_Reader__take_column := by
  refine FnM.of (N := ["self", "first"]) (ps := ["self"]) (k := 3) M.f_Reader__take_column sc_Reader__take_column hK (fun _ _ _ _ _ _ us hl => match us, hl with | [_], _ => rfl) fun f cdv A outer sh H E c hp => ?_
  exact (s_seq (s_set 1 sc_Reader__take_column.nd (e_meth0 ((ok_Reader__take_name M hK).mono (by decide)) c (e_var 0)))
  (s_one (s_ret (e_ife (t_val (e_meth ((ok_Reader__comes M hK).mono (by decide)) c (e_var 0) (a_cons e_str a_nil))) (e_tup (a_cons (e_var 1) (a_cons (e_meth0 ((ok_Reader__take_name M hK).mono (by decide)) c (e_var 0)) a_nil))) (e_tup (a_cons e_non (a_cons (e_var 1) a_nil)))))))
theorem sc_Reader__is_label : FnScope ["self"] ["self"] (defScope (mthOf (top 54) 14)) := ⟨rfl, rfl, rfl, by decide +kernel, rfl, by decide +kernel, by decide +kernel⟩
theorem ok_Reader__is_label (M : Mg g K mg) (hK : K = g.K) : FnM P w K mg base g 4 22 "is_label" c_Reader__is_label := by
  refine FnM.of (N := ["self"]) (ps := ["self"]) (k := 3) M.f_Reader__is_label sc_Reader__is_label hK (fun _ _ _ _ _ _ us hl => match us, hl with | [_], _ => rfl) fun f cdv A outer sh H E c hp => ?_
  exact (s_seq (s_if (t_cmp (o_eq c) (e_sl c (e_fld 22 c (by rw [← hK]; exact M.cl_Reader) (by rw [← hK]; exact M.na_Reader_words) (e_var 0)) (p_some (e_bin (o_add c) (e_fld 22 c (by rw [← hK]; exact M.cl_Reader) (by rw [← hK]; exact M.na_Reader_place) (e_var 0)) e_int)) (p_some (e_bin (o_add c) (e_fld 22 c (by rw [← hK]; exact M.cl_Reader) (by rw [← hK]; exact M.na_Reader_place) (e_var 0)) e_int))) (e_lst (a_cons e_str a_nil))) (s_one (s_ret e_bl)) s_nil)
  (s_seq (s_expr (e_meth ((ok_Reader__skip M hK).mono (by decide)) c (e_var 0) (a_cons e_str a_nil)))
  (s_one (s_ret e_bl))))
theorem sc_Reader__take_source : FnScope ["self", "place", "label"] ["self"] (defScope (mthOf (top 54) 13)) := ⟨rfl, rfl, rfl, by decide +kernel, rfl, by decide +kernel, by decide +kernel⟩
theorem ok_Reader__take_source (M : Mg g K mg) (hK : K = g.K) : FnM P w K mg base g 5 22 "take_source" c_Reader__take_source := by
  refine FnM.of (N := ["self", "place", "label"]) (ps := ["self"]) (k := 4) M.f_Reader__take_source sc_Reader__take_source hK (fun _ _ _ _ _ _ us hl => match us, hl with | [_], _ => rfl) fun f cdv A outer sh H E c hp => ?_
  exact (s_seq (s_set 1 sc_Reader__take_source.nd (e_meth0 ((ok_Reader__take_column M hK).mono (by decide)) c (e_var 0)))
  (s_seq (s_set 2 sc_Reader__take_source.nd (e_ife (t_bool (w_and (t_cmp (o_eq c) (e_meth0 ((ok_Reader__next_word M hK).mono (by decide)) c (e_var 0)) e_str) (w_one (t_val (e_meth0 ((ok_Reader__is_label M hK).mono (by decide)) c (e_var 0)))))) (e_meth0 ((ok_Reader__take_name M hK).mono (by decide)) c (e_var 0)) (e_ix c (e_var 1) e_int)))
  (s_one (s_ret (e_tup (a_star c (e_var 1) (a_cons (e_var 2) a_nil)))))))
theorem sc_Reader__take_part : FnScope ["self", "kind"] ["self", "kind"] (defScope (mthOf (top 54) 8)) := ⟨rfl, rfl, rfl, by decide +kernel, rfl, by decide +kernel, by decide +kernel⟩
theorem sc_Reader__take_parts : FnScope ["self", "kind", "found"] ["self", "kind"] (defScope (mthOf (top 54) 9)) := ⟨rfl, rfl, rfl, by decide +kernel, rfl, by decide +kernel, by decide +kernel⟩
theorem sc_Reader__take_term : FnScope ["self", "depth", "first", "terms"] ["self", "depth"] (defScope (mthOf (top 54) 11)) := ⟨rfl, rfl, rfl, by decide +kernel, rfl, by decide +kernel, by decide +kernel⟩
theorem sc_Reader__take_told : FnScope ["self", "label", "term", "is_plain"] ["self"] (defScope (mthOf (top 54) 12)) := ⟨rfl, rfl, rfl, by decide +kernel, rfl, by decide +kernel, by decide +kernel⟩
theorem ok_G2 (M : Mg g K mg) (hK : K = g.K) : ∀ n : Nat, FnM P w K mg base g (5 + n) 22 "take_part" (c_G2 n 0) ∧ FnM P w K mg base g (5 + n) 22 "take_parts" (c_G2 n 1) ∧ FnM P w K mg base g (5 + n) 22 "take_term" (c_G2 n 2) ∧ FnM P w K mg base g (5 + n) 22 "take_told" (c_G2 n 3)
  | 0 => ⟨FnM.bad M.f_Reader__take_part, FnM.bad M.f_Reader__take_parts, FnM.bad M.f_Reader__take_term, FnM.bad M.f_Reader__take_told⟩
  | n + 1 => by
    have ih := ok_G2 M hK n
    refine ⟨?_, ?_, ?_, ?_⟩
    · refine FnM.of (N := ["self", "kind"]) (ps := ["self", "kind"]) (k := 5 + n) M.f_Reader__take_part sc_Reader__take_part hK (fun _ _ _ _ _ _ us hl => match us, hl with | [_, _], _ => rfl) fun f cdv A outer sh H E c hp => ?_
      exact (s_seq (s_if (t_cmp (o_eq c) (e_var 1) e_str) (s_one (s_ret (e_meth0 ((ok_Reader__take_name M hK).mono (by omega)) c (e_var 0)))) s_nil)
  (s_seq (s_if (t_cmp (o_eq c) (e_var 1) e_str) (s_one (s_ret (e_meth0 ((ok_Reader__take_value M hK).mono (by omega)) c (e_var 0)))) s_nil)
  (s_seq (s_if (t_cmp (o_eq c) (e_var 1) e_str) (s_one (s_ret (e_meth0 ih.2.2.2 c (e_var 0)))) s_nil)
  (s_one (s_ret (e_ife (t_cmp (o_eq c) (e_var 1) e_str) (e_meth0 ((ok_Reader__take_source M hK).mono (by omega)) c (e_var 0)) (e_meth ih.2.2.1 c (e_var 0) (a_cons (e_var 1) a_nil))))))))
    · refine FnM.of (N := ["self", "kind", "found"]) (ps := ["self", "kind"]) (k := 5 + n) M.f_Reader__take_parts sc_Reader__take_parts hK (fun _ _ _ _ _ _ us hl => match us, hl with | [_, _], _ => rfl) fun f cdv A outer sh H E c hp => ?_
      exact (s_seq (s_set 2 sc_Reader__take_parts.nd (e_new (a_cons (e_meth ih.1 c (e_var 0) (a_cons (e_var 1) a_nil)) a_nil)))
  (s_seq (s_while (n := 1000) hp (t_val (e_meth ((ok_Reader__comes M hK).mono (by omega)) c (e_var 0) (a_cons e_str (a_cons e_str a_nil)))) (s_one (s_expr (e_app c (e_var 2) (a_cons (e_meth ih.1 c (e_var 0) (a_cons (e_var 1) a_nil)) a_nil)))))
  (s_one (s_ret (e_bty (b_tuple c) M.n_tuple (a_cons (e_var 2) a_nil))))))
    · refine FnM.of (N := ["self", "depth", "first", "terms"]) (ps := ["self", "depth"]) (k := 5 + n) M.f_Reader__take_term sc_Reader__take_term hK (fun _ _ _ _ _ _ us hl => match us, hl with | [_, _], _ => rfl) fun f cdv A outer sh H E c hp => ?_
      exact (s_seq (s_if (t_cmp (o_eq c) (e_sl c (e_meth0 ((ok_Reader__next_word M hK).mono (by omega)) c (e_var 0)) p_no (p_some e_int)) e_str) (s_one (s_ret (e_meth0 ((ok_Reader__take_value M hK).mono (by omega)) c (e_var 0)))) s_nil)
  (s_seq (s_set 2 sc_Reader__take_term.nd (e_meth0 ((ok_Reader__take_column M hK).mono (by omega)) c (e_var 0)))
  (s_seq (s_if (t_bool (w_or (t_cmp (o_eq c) (e_var 1) e_int) (w_one (t_not (t_val (e_meth ((ok_Reader__comes M hK).mono (by omega)) c (e_var 0) (a_cons e_str a_nil))))))) (s_one (s_ret (e_var 2))) s_nil)
  (s_seq (s_set 3 sc_Reader__take_term.nd (e_meth ih.2.1 c (e_var 0) (a_cons (e_bin o_sub (e_var 1) e_int) a_nil)))
  (s_seq (s_expr (e_meth ((ok_Reader__skip M hK).mono (by omega)) c (e_var 0) (a_cons e_str a_nil)))
  (s_one (s_ret (e_tup (a_cons e_str (a_star c (e_var 2) (a_cons (e_var 3) a_nil)))))))))))
    · refine FnM.of (N := ["self", "label", "term", "is_plain"]) (ps := ["self"]) (k := 5 + n) M.f_Reader__take_told sc_Reader__take_told hK (fun _ _ _ _ _ _ us hl => match us, hl with | [_], _ => rfl) fun f cdv A outer sh H E c hp => ?_
      exact (s_seq (s_if (t_cmp (o_eq c) (e_sl c (e_fld 22 c (by rw [← hK]; exact M.cl_Reader) (by rw [← hK]; exact M.na_Reader_words) (e_var 0)) (p_some (e_bin (o_add c) (e_fld 22 c (by rw [← hK]; exact M.cl_Reader) (by rw [← hK]; exact M.na_Reader_place) (e_var 0)) e_int)) (p_some (e_bin (o_add c) (e_fld 22 c (by rw [← hK]; exact M.cl_Reader) (by rw [← hK]; exact M.na_Reader_place) (e_var 0)) e_int))) (e_lst (a_cons e_str (a_cons e_str a_nil)))) (s_seq (s_set 1 sc_Reader__take_told.nd (e_meth0 ((ok_Reader__take_name M hK).mono (by omega)) c (e_var 0)))
    (s_seq (s_expr (e_meth ((ok_Reader__skip M hK).mono (by omega)) c (e_var 0) (a_cons e_str (a_cons e_str a_nil))))
    (s_one (s_ret (e_tup (a_cons e_str (a_cons (e_var 1) a_nil))))))) s_nil)
  (s_seq (s_set 2 sc_Reader__take_told.nd (e_meth ih.2.2.1 c (e_var 0) (a_cons (e_gi M.g_DEPTH) a_nil)))
  (s_seq (s_set 3 sc_Reader__take_told.nd (e_and (e_isi .tup c (e_var 2) M.n_isinstance M.n_tuple) (e_one (e_cmp (o_eq c) (e_blt (b_len c) M.n_len (a_cons (e_var 2) a_nil)) e_int))))
  (s_seq (s_if (t_bool (w_and (t_val (e_var 3)) (w_one (t_not (t_val (e_meth ((ok_Reader__comes M hK).mono (by omega)) c (e_var 0) (a_cons e_str (a_cons e_str (a_cons e_str a_nil))))))))) (s_one (s_ret (e_tup (a_cons e_str (a_cons (e_var 2) (a_cons (e_ix c (e_var 2) e_int) a_nil)))))) s_nil)
  (s_seq (s_if (t_not (t_val (e_var 3))) (s_one (s_expr (e_meth ((ok_Reader__skip M hK).mono (by omega)) c (e_var 0) (a_cons e_str (a_cons e_str (a_cons e_str a_nil)))))) s_nil)
  (s_one (s_ret (e_tup (a_cons (e_ife (t_val (e_var 3)) e_str e_str) (a_cons (e_var 2) (a_cons (e_meth0 ((ok_Reader__take_name M hK).mono (by omega)) c (e_var 0)) a_nil)))))))))))
theorem sc_Reader__take_values : FnScope ["self", "found"] ["self"] (defScope (mthOf (top 54) 10)) := ⟨rfl, rfl, rfl, by decide +kernel, rfl, by decide +kernel, by decide +kernel⟩
theorem ok_Reader__take_values (M : Mg g K mg) (hK : K = g.K) : FnM P w K mg base g 18 22 "take_values" c_Reader__take_values := by
  refine FnM.of (N := ["self", "found"]) (ps := ["self"]) (k := 17) M.f_Reader__take_values sc_Reader__take_values hK (fun _ _ _ _ _ _ us hl => match us, hl with | [_], _ => rfl) fun f cdv A outer sh H E c hp => ?_
  exact (s_seq (s_expr (e_meth ((ok_Reader__skip M hK).mono (by decide)) c (e_var 0) (a_cons e_str a_nil)))
  (s_seq (s_set 1 sc_Reader__take_values.nd (e_meth ((ok_G2 M hK 12).2.1.mono (by decide)) c (e_var 0) (a_cons e_str a_nil)))
  (s_seq (s_expr (e_meth ((ok_Reader__skip M hK).mono (by decide)) c (e_var 0) (a_cons e_str a_nil)))
  (s_one (s_ret (e_var 1))))))
theorem sc_Reader__take_condition : FnScope ["self", "column"] ["self"] (defScope (mthOf (top 54) 15)) := ⟨rfl, rfl, rfl, by decide +kernel, rfl, by decide +kernel, by decide +kernel⟩
theorem ok_Reader__take_condition (M : Mg g K mg) (hK : K = g.K) : FnM P w K mg base g 19 22 "take_condition" c_Reader__take_condition := by
  refine FnM.of (N := ["self", "column"]) (ps := ["self"]) (k := 18) M.f_Reader__take_condition sc_Reader__take_condition hK (fun _ _ _ _ _ _ us hl => match us, hl with | [_], _ => rfl) fun f cdv A outer sh H E c hp => ?_
  exact (s_seq (s_set 1 sc_Reader__take_condition.nd (e_meth0 ((ok_Reader__take_column M hK).mono (by decide)) c (e_var 0)))
  (s_seq (s_expr (e_meth ((ok_Reader__skip M hK).mono (by decide)) c (e_var 0) (a_cons e_str a_nil)))
  (s_seq (s_if (t_val (e_meth ((ok_Reader__comes M hK).mono (by decide)) c (e_var 0) (a_cons e_str (a_cons e_str a_nil)))) (s_one (s_ret (e_tup (a_cons e_str (a_cons (e_var 1) (a_cons (e_meth0 ((ok_Reader__take_column M hK).mono (by decide)) c (e_var 0)) a_nil)))))) s_nil)
  (s_seq (s_expr (e_meth ((ok_Reader__skip M hK).mono (by decide)) c (e_var 0) (a_cons e_str (a_cons e_str a_nil))))
  (s_one (s_ret (e_tup (a_cons e_str (a_cons (e_var 1) (a_cons (e_meth0 ((ok_Reader__take_values M hK).mono (by decide)) c (e_var 0)) a_nil))))))))))
theorem sc_Reader__take_statement : FnScope ["self", "distinct", "told", "sources", "conditions"] ["self"] (defScope (mthOf (top 54) 16)) := ⟨rfl, rfl, rfl, by decide +kernel, rfl, by decide +kernel, by decide +kernel⟩
theorem ok_Reader__take_statement (M : Mg g K mg) (hK : K = g.K) : FnM P w K mg base g 20 22 "take_statement" c_Reader__take_statement := by
  refine FnM.of (N := ["self", "distinct", "told", "sources", "conditions"]) (ps := ["self"]) (k := 19) M.f_Reader__take_statement sc_Reader__take_statement hK (fun _ _ _ _ _ _ us hl => match us, hl with | [_], _ => rfl) fun f cdv A outer sh H E c hp => ?_
  exact (s_seq (s_expr (e_meth ((ok_Reader__skip M hK).mono (by decide)) c (e_var 0) (a_cons e_str (a_cons e_str a_nil))))
  (s_seq (s_set 1 sc_Reader__take_statement.nd (e_meth ((ok_Reader__comes M hK).mono (by decide)) c (e_var 0) (a_cons e_str (a_cons e_str a_nil))))
  (s_seq (s_set 2 sc_Reader__take_statement.nd (e_meth ((ok_G2 M hK 12).2.1.mono (by decide)) c (e_var 0) (a_cons e_str a_nil)))
  (s_seq (s_expr (e_meth ((ok_Reader__skip M hK).mono (by decide)) c (e_var 0) (a_cons e_str (a_cons e_str (a_cons e_str a_nil)))))
  (s_seq (by first | exact (s_par2 3 4 c sc_Reader__take_statement.nd (a_cons (e_meth ((ok_G2 M hK 12).2.1.mono (by decide)) c (e_var 0) (a_cons e_str a_nil)) (a_cons (e_new a_nil) a_nil))) | exact (s_asg (vs := [3, 4]) (e_tup (a_cons (e_meth ((ok_G2 M hK 12).2.1.mono (by decide)) c (e_var 0) (a_cons e_str a_nil)) (a_cons (e_new a_nil) a_nil))) (g_tup c (gs_cons (g_name 3 sc_Reader__take_statement.nd) (gs_cons (g_name 4 sc_Reader__take_statement.nd) gs_nil)))))
  (s_seq (s_if (t_val (e_meth ((ok_Reader__comes M hK).mono (by decide)) c (e_var 0) (a_cons e_str (a_cons e_str (a_cons e_str a_nil))))) (s_seq (s_expr (e_app c (e_var 4) (a_cons (e_meth0 ((ok_Reader__take_condition M hK).mono (by decide)) c (e_var 0)) a_nil)))
    (s_one (s_while (n := 1000) hp (t_val (e_meth ((ok_Reader__comes M hK).mono (by decide)) c (e_var 0) (a_cons e_str (a_cons e_str (a_cons e_str a_nil))))) (s_one (s_expr (e_app c (e_var 4) (a_cons (e_meth0 ((ok_Reader__take_condition M hK).mono (by decide)) c (e_var 0)) a_nil))))))) s_nil)
  (s_one (s_ret (e_tup (a_cons (e_var 1) (a_cons (e_var 2) (a_cons (e_var 3) (a_cons (e_bty (b_tuple c) M.n_tuple (a_cons (e_var 4) a_nil)) a_nil)))))))))))))
theorem sc_Reader__finish : FnScope ["self"] ["self"] (defScope (mthOf (top 54) 17)) := ⟨rfl, rfl, rfl, by decide +kernel, rfl, by decide +kernel, by decide +kernel⟩
theorem ok_Reader__finish (M : Mg g K mg) (hK : K = g.K) : FnM P w K mg base g 1 22 "finish" c_Reader__finish := by
  refine FnM.of (N := ["self"]) (ps := ["self"]) (k := 0) M.f_Reader__finish sc_Reader__finish hK (fun _ _ _ _ _ _ us hl => match us, hl with | [_], _ => rfl) fun f cdv A outer sh H E c hp => ?_
  exact (s_one (s_if (t_cmp (o_ne c) (e_fld 22 c (by rw [← hK]; exact M.cl_Reader) (by rw [← hK]; exact M.na_Reader_place) (e_var 0)) (e_blt (b_len c) M.n_len (a_cons (e_fld 22 c (by rw [← hK]; exact M.cl_Reader) (by rw [← hK]; exact M.na_Reader_words) (e_var 0)) a_nil))) (s_one (s_raise (M.ex.ex 6 _ rfl) c (e_gs M.g_DOUBT))) s_nil))
theorem sc_read : FnScope ["text", "reader", "found"] ["text"] (defScope (top 55)) := ⟨rfl, rfl, rfl, by decide +kernel, rfl, by decide +kernel, by decide +kernel⟩
theorem ok_read (M : Mg g K mg) (hK : K = g.K) : FnT P w K mg base g 21 "read" c_read := by
  refine FnT.of (N := ["text", "reader", "found"]) (ps := ["text"]) (k := 20) M.f_read sc_read hK (fun _ _ _ _ _ _ us hl => match us, hl with | [_], _ => rfl) fun f cdv A outer sh H E c hp => ?_
  exact (s_seq (s_set 1 sc_read.nd (e_make (k := 19) ((ok_Reader____init__ M hK).mono (by decide)) c (a_cons (e_var 0) a_nil)))
  (s_seq (s_set 2 sc_read.nd (e_meth0 ((ok_Reader__take_statement M hK).mono (by decide)) c (e_var 1)))
  (s_seq (s_expr (e_meth0 ((ok_Reader__finish M hK).mono (by decide)) c (e_var 1)))
  (s_seq (s_if (t_bool (w_or (t_not (t_val (e_call ((ok_is_statement M hK).mono (by decide)) c (a_cons (e_var 2) a_nil)))) (w_one (t_cmp (o_ne c) (e_call ((ok_write M hK).mono (by decide)) c (a_cons (e_var 2) a_nil)) (e_var 0))))) (s_one (s_raise (M.ex.ex 6 _ rfl) c (e_gs M.g_DOUBT))) s_nil)
  (s_one (s_ret (e_var 2)))))))
theorem sc_law_pen : FnScope ["_law_script"] ["_law_script"] (defScope (top 57)) := ⟨rfl, rfl, rfl, by decide +kernel, rfl, by decide +kernel, by decide +kernel⟩
theorem ok_law_pen (M : Mg g K mg) (hK : K = g.K) : FnT P w K mg base g 1 "_law_pen" c_law_pen := by
  refine FnT.of (N := ["_law_script"]) (ps := ["_law_script"]) (k := 0) M.f_law_pen sc_law_pen hK (fun _ _ _ _ _ _ us hl => match us, hl with | [_], _ => rfl) fun f cdv A outer sh H E c hp => ?_
  exact (s_one (s_ret (e_new (a_cons (e_bty (b_list c) M.n_list (a_cons (e_sl c (e_var 0) p_no (p_some e_int)) a_nil)) (a_cons e_int (a_cons e_int a_nil))))))
theorem sc_law_next : FnScope ["_law_pen_here", "_law_index", "_law_cell_here", "_law_some", "_law_more", "_law_top"] ["_law_pen_here"] (defScope (top 58)) := ⟨rfl, rfl, rfl, by decide +kernel, rfl, by decide +kernel, by decide +kernel⟩
theorem ok_law_next (M : Mg g K mg) (hK : K = g.K) : FnT P w K mg base g 1 "_law_next" c_law_next := by
  refine FnT.of (N := ["_law_pen_here", "_law_index", "_law_cell_here", "_law_some", "_law_more", "_law_top"]) (ps := ["_law_pen_here"]) (k := 0) M.f_law_next sc_law_next hK (fun _ _ _ _ _ _ us hl => match us, hl with | [_], _ => rfl) fun f cdv A outer sh H E c hp => ?_
  exact (s_seq (s_set 1 sc_law_next.nd (e_ix c (e_var 0) e_int))
  (s_seq (s_sub (e_bin (o_add c) (e_var 1) e_int) (e_var 0) e_int)
  (s_seq (s_set 2 sc_law_next.nd (e_bin (o_add c) (e_bin o_mul (e_var 1) e_int) e_int))
  (s_seq (s_if (t_cmp (o_ne c) (e_ix c (e_var 0) e_int) (e_lst a_nil)) (s_one (s_set 2 sc_law_next.nd (e_ix c (e_ix c (e_var 0) e_int) (e_bin o_mod (e_bty b_int M.n_int (a_cons (e_var 1) a_nil)) (e_blt (b_len c) M.n_len (a_cons (e_ix c (e_var 0) e_int) a_nil)))))) s_nil)
  (s_seq (s_if (t_bool (w_and (t_cmp o_lt (e_var 1) (e_blt (b_len c) M.n_len (a_cons (e_ix c (e_var 0) e_int) a_nil))) (w_one (t_cmp o_ge (e_var 2) (e_bin o_pow e_int e_int))))) (s_one (s_ret (e_var 2))) s_nil)
  (s_seq (s_set 3 sc_law_next.nd (e_bin o_mod (e_bty b_int M.n_int (a_cons (e_bin (o_add c) (e_bin (o_add c) (e_bin o_mod (e_bty b_int M.n_int (a_cons (e_var 2) a_nil)) e_int) (e_bin o_mul (e_var 1) e_int)) e_int) a_nil)) e_int))
  (s_seq (s_set 4 sc_law_next.nd (e_bin o_mod (e_bty b_int M.n_int (a_cons (e_bin (o_add c) (e_bin (o_add c) (e_bin o_mul (e_var 3) (e_var 3)) (e_bin o_mul (e_var 1) e_int)) e_int) a_nil)) e_int))
  (s_seq (s_set 5 sc_law_next.nd (e_bin o_mod (e_bty b_int M.n_int (a_cons (e_bin (o_add c) (e_bin (o_add c) (e_bin o_mul (e_var 4) (e_var 4)) (e_var 3)) (e_bin o_mul (e_bin o_mul (e_var 1) (e_var 1)) e_int)) a_nil)) e_int))
  (s_one (s_ret (e_bin (o_add c) (e_bin o_mul (e_bin (o_add c) (e_bin o_mul (e_var 5) e_int) (e_var 4)) e_int) (e_var 3))))))))))))
theorem sc_law_draw : FnScope ["_law_pen_here", "_law_under", "_law_digit"] ["_law_pen_here", "_law_under"] (defScope (top 59)) := ⟨rfl, rfl, rfl, by decide +kernel, rfl, by decide +kernel, by decide +kernel⟩
theorem ok_law_draw (M : Mg g K mg) (hK : K = g.K) : FnT P w K mg base g 2 "_law_draw" c_law_draw := by
  refine FnT.of (N := ["_law_pen_here", "_law_under", "_law_digit"]) (ps := ["_law_pen_here", "_law_under"]) (k := 1) M.f_law_draw sc_law_draw hK (fun _ _ _ _ _ _ us hl => match us, hl with | [_, _], _ => rfl) fun f cdv A outer sh H E c hp => ?_
  exact (s_seq (s_if (t_cmp o_lt (e_ix c (e_var 0) e_int) (e_var 1)) (s_one (s_sub (e_call ((ok_law_next M hK).mono (by decide)) c (a_cons (e_var 0) a_nil)) (e_var 0) e_int)) s_nil)
  (s_seq (s_set 2 sc_law_draw.nd (e_bin o_mod (e_bty b_int M.n_int (a_cons (e_ix c (e_var 0) e_int) a_nil)) (e_var 1)))
  (s_seq (s_sub (e_bin o_fdiv (e_ix c (e_var 0) e_int) (e_var 1)) (e_var 0) e_int)
  (s_one (s_ret (e_var 2))))))
theorem sc_law_made : FnScope ["_law_words", "_law_found"] ["_law_words"] (defScope (top 60)) := ⟨rfl, rfl, rfl, by decide +kernel, rfl, by decide +kernel, by decide +kernel⟩
theorem ok_law_made (M : Mg g K mg) (hK : K = g.K) : FnT P w K mg base g 1 "_law_made" c_law_made := by
  refine FnT.of (N := ["_law_words", "_law_found"]) (ps := ["_law_words"]) (k := 0) M.f_law_made sc_law_made hK (fun _ _ _ _ _ _ us hl => match us, hl with | [_], _ => rfl) fun f cdv A outer sh H E c hp => ?_
  exact (s_seq (s_set 1 sc_law_made.nd (e_lst (a_cons (e_exc (M.ex.ex 0 _ rfl) (e_ix c (e_var 0) e_int)) a_nil)))
  (s_seq (s_set 1 sc_law_made.nd (e_bin (o_add c) (e_var 1) (e_lst (a_cons (e_exc (M.ex.ex 1 _ rfl) (e_ix c (e_var 0) e_int)) (a_cons (e_exc (M.ex.ex 2 _ rfl) (e_ix c (e_var 0) e_int)) (a_cons (e_exc (M.ex.ex 3 _ rfl) (e_ix c (e_var 0) e_int)) (a_cons (e_exc (M.ex.ex 4 _ rfl) (e_ix c (e_var 0) e_int)) a_nil)))))))
  (s_seq (s_set 1 sc_law_made.nd (e_bin (o_add c) (e_var 1) (e_lst (a_cons (e_exc (M.ex.ex 5 _ rfl) (e_ix c (e_var 0) e_int)) (a_cons (e_exc (M.ex.ex 6 _ rfl) (e_ix c (e_var 0) e_int)) (a_cons (e_exc (M.ex.ex 7 _ rfl) (e_ix c (e_var 0) e_int)) (a_cons (e_exc (M.ex.ex 8 _ rfl) (e_ix c (e_var 0) e_int)) a_nil)))))))
  (s_seq (s_set 1 sc_law_made.nd (e_bin (o_add c) (e_var 1) (e_lst (a_cons (e_exc (M.ex.ex 9 _ rfl) (e_ix c (e_var 0) e_int)) (a_cons (e_exc (M.ex.ex 10 _ rfl) (e_ix c (e_var 0) e_int)) (a_cons (e_exc (M.ex.ex 11 _ rfl) (e_ix c (e_var 0) e_int)) (a_cons (e_exc (M.ex.ex 12 _ rfl) (e_ix c (e_var 0) e_int)) a_nil)))))))
  (s_seq (s_set 1 sc_law_made.nd (e_bin (o_add c) (e_var 1) (e_lst (a_cons (e_exc (M.ex.ex 13 _ rfl) (e_ix c (e_var 0) e_int)) (a_cons (e_exc (M.ex.ex 14 _ rfl) (e_ix c (e_var 0) e_int)) (a_cons (e_exc (M.ex.ex 15 _ rfl) (e_ix c (e_var 0) e_int)) (a_cons (e_exc (M.ex.ex 16 _ rfl) (e_ix c (e_var 0) e_int)) a_nil)))))))
  (s_seq (s_set 1 sc_law_made.nd (e_bin (o_add c) (e_var 1) (e_lst (a_cons (e_exc (M.ex.ex 17 _ rfl) (e_ix c (e_var 0) e_int)) (a_cons (e_exc (M.ex.ex 18 _ rfl) (e_ix c (e_var 0) e_int)) (a_cons (e_exc (M.ex.ex 19 _ rfl) (e_ix c (e_var 0) e_int)) (a_cons (e_exc (M.ex.ex 20 _ rfl) (e_ix c (e_var 0) e_int)) a_nil)))))))
  (s_seq (s_set 1 sc_law_made.nd (e_bin (o_add c) (e_var 1) (e_lst (a_cons (e_exc (M.ex.ex 21 _ rfl) (e_ix c (e_var 0) e_int)) a_nil))))
  (s_one (s_ret (e_var 1))))))))))
theorem sc_law_kinds : FnScope ["_law_caught", "_law_found"] ["_law_caught"] (defScope (top 61)) := ⟨rfl, rfl, rfl, by decide +kernel, rfl, by decide +kernel, by decide +kernel⟩
theorem ok_law_kinds (M : Mg g K mg) (hK : K = g.K) : FnT P w K mg base g 1 "_law_kinds" c_law_kinds := by
  refine FnT.of (N := ["_law_caught", "_law_found"]) (ps := ["_law_caught"]) (k := 0) M.f_law_kinds sc_law_kinds hK (fun _ _ _ _ _ _ us hl => match us, hl with | [_], _ => rfl) fun f cdv A outer sh H E c hp => ?_
  exact (s_seq (s_set 1 sc_law_kinds.nd (e_lst a_nil))
  (s_seq (s_set 1 sc_law_kinds.nd (e_bin (o_add c) (e_var 1) (e_lst (a_cons (e_isO 1 M.ex c (e_var 0) M.n_isinstance) (a_cons (e_isO 2 M.ex c (e_var 0) M.n_isinstance) a_nil)))))
  (s_seq (s_set 1 sc_law_kinds.nd (e_bin (o_add c) (e_var 1) (e_lst (a_cons (e_isO 3 M.ex c (e_var 0) M.n_isinstance) a_nil))))
  (s_seq (s_set 1 sc_law_kinds.nd (e_bin (o_add c) (e_var 1) (e_lst (a_cons (e_isO 4 M.ex c (e_var 0) M.n_isinstance) (a_cons (e_isO 5 M.ex c (e_var 0) M.n_isinstance) a_nil)))))
  (s_seq (s_set 1 sc_law_kinds.nd (e_bin (o_add c) (e_var 1) (e_lst (a_cons (e_isO 6 M.ex c (e_var 0) M.n_isinstance) a_nil))))
  (s_seq (s_set 1 sc_law_kinds.nd (e_bin (o_add c) (e_var 1) (e_lst (a_cons (e_isO 7 M.ex c (e_var 0) M.n_isinstance) (a_cons (e_isO 8 M.ex c (e_var 0) M.n_isinstance) (a_cons (e_isO 9 M.ex c (e_var 0) M.n_isinstance) a_nil))))))
  (s_seq (s_set 1 sc_law_kinds.nd (e_bin (o_add c) (e_var 1) (e_lst (a_cons (e_isO 10 M.ex c (e_var 0) M.n_isinstance) (a_cons (e_isO 11 M.ex c (e_var 0) M.n_isinstance) (a_cons (e_isO 12 M.ex c (e_var 0) M.n_isinstance) a_nil))))))
  (s_seq (s_set 1 sc_law_kinds.nd (e_bin (o_add c) (e_var 1) (e_lst (a_cons (e_isO 13 M.ex c (e_var 0) M.n_isinstance) (a_cons (e_isO 14 M.ex c (e_var 0) M.n_isinstance) (a_cons (e_isO 15 M.ex c (e_var 0) M.n_isinstance) a_nil))))))
  (s_seq (s_set 1 sc_law_kinds.nd (e_bin (o_add c) (e_var 1) (e_lst (a_cons (e_isO 16 M.ex c (e_var 0) M.n_isinstance) (a_cons (e_isO 17 M.ex c (e_var 0) M.n_isinstance) (a_cons (e_isO 18 M.ex c (e_var 0) M.n_isinstance) a_nil))))))
  (s_seq (s_set 1 sc_law_kinds.nd (e_bin (o_add c) (e_var 1) (e_lst (a_cons (e_isO 19 M.ex c (e_var 0) M.n_isinstance) (a_cons (e_isO 20 M.ex c (e_var 0) M.n_isinstance) (a_cons (e_isO 21 M.ex c (e_var 0) M.n_isinstance) a_nil))))))
  (s_one (s_ret (e_var 1)))))))))))))
theorem sc_law : FnScope ["_law_script", "_law_pen_here", "_law_some", "_law_words", "_law_errors_made", "_law_k", "_law_caught", "_law_due", "e", "_law_j"] ["_law_script"] (defScope (top 62)) := ⟨rfl, rfl, rfl, by decide +kernel, rfl, by decide +kernel, by decide +kernel⟩
theorem ok_law {f : Addr} {fd : FuncData} (F : FunD K "law" "law" (defArgs (top 62)) (defBody (top 62)) (defScope (top 62)) [] [] f fd) (M : Mg g K mg) (hK : K = g.K) : FnI P w K mg base g 22 f fd ["_law_script"] c_law := by
  refine fn_body (N := ["_law_script", "_law_pen_here", "_law_some", "_law_words", "_law_errors_made", "_law_k", "_law_caught", "_law_due", "e", "_law_j"]) (ps := ["_law_script"]) (k := 21) F sc_law hK fun cdv A outer sh H E c hp => ?_
  exact (s_seq (s_set 1 sc_law.nd (e_call ((ok_law_pen M hK).mono (by decide)) c (a_cons (e_var 0) a_nil)))
  (s_seq (s_set 2 sc_law.nd (e_lst (a_cons e_str (a_cons e_str (a_cons (e_bin o_mulT e_str e_int) (a_cons e_str (a_cons e_str (a_cons e_str (a_cons e_str a_nil)))))))))
  (s_seq (s_setLc 3 [("_law_k", 5)] c sc_law.nd (by rfl) (i_range e_int M.n_range) (by kernel_rfl) (fun s11 H11 C11 l11 p11 => (g_name 5 sc_law.nd)) (fun s11 H11 C11 l11 p11 => ts_nil) (fun s11 H11 C11 l11 p11 => (e_ix (c.blk s11 H11 _ (compEnvC _ l11 C11 _) p11) (e_var 2) (e_call ((ok_law_draw M hK).mono (by decide)) (c.blk s11 H11 _ (compEnvC _ l11 C11 _) p11) (a_cons (e_var 1) (a_cons e_int a_nil))))))
  (s_seq (s_set 4 sc_law.nd (e_call ((ok_law_made M hK).mono (by decide)) c (a_cons (e_var 3) a_nil)))
  (s_seq (s_for (vs := [5]) c hp (i_range (e_blt (b_len c) M.n_len (a_cons (e_var 4) a_nil)) M.n_range) (g_name 5 sc_law.nd) (s_seq (s_set 6 sc_law.nd (e_ix c (e_var 4) (e_var 5)))
    (s_seq (s_if (t_bool (w_or (t_not (t_val (e_isO 0 M.ex c (e_var 6) M.n_isinstance))) (w_one (t_not (t_val (e_isV M.ex c (e_var 6) M.n_isinstance M.n_ValueError)))))) (s_one (s_ret e_bl)) s_nil)
    (s_seq (s_setLc 7 [("_law_j", 9)] c sc_law.nd (by rfl) (i_range e_int M.n_range) (by kernel_rfl) (fun s12 H12 C12 l12 p12 => (g_name 9 sc_law.nd)) (fun s12 H12 C12 l12 p12 => ts_nil) (fun s12 H12 C12 l12 p12 => (e_cmp (o_eq (c.blk s12 H12 _ (compEnvC _ l12 C12 _) p12)) (e_bin (o_add (c.blk s12 H12 _ (compEnvC _ l12 C12 _) p12)) (e_var 9) e_int) (e_var 5))))
    (s_one (s_if (t_cmp (o_ne c) (e_blt (b_reprA c) M.n_repr (a_cons (e_call ((ok_law_kinds M hK).mono (by decide)) c (a_cons (e_var 6) a_nil)) a_nil)) (e_blt (b_reprA c) M.n_repr (a_cons (e_var 7) a_nil))) (s_one (s_ret e_bl)) s_nil))))))
  (s_seq (s_set 6 sc_law.nd e_non)
  (s_seq (s_try 8 6 c rfl rfl rfl sc_law.nd (M.ex.ex 0 _ rfl).gC (ck_of M.ex (t := 0) rfl) (fun W' pn xe c hp => (s_one (s_expr (e_call ((ok_read M hK).mono (by decide)) c (a_cons (e_ix c (e_lst (a_cons e_str (a_cons e_str (a_cons e_str a_nil)))) (e_call ((ok_law_draw M hK).mono (by decide)) c (a_cons (e_var 1) (a_cons e_int a_nil)))) a_nil))))))
  (s_one (s_ret (e_and (e_cmp o_isn (e_var 6) e_non) (e_one (e_cmp (o_eq c) (e_blt (b_reprA c) M.n_repr (a_cons (e_call ((ok_law_kinds M hK).mono (by decide)) c (a_cons (e_var 6) a_nil)) a_nil)) (e_blt (b_reprA c) M.n_repr (a_cons (e_call ((ok_law_kinds M hK).mono (by decide)) c (a_cons (e_exc (M.ex.ex 6 _ rfl) e_str) a_nil)) a_nil))))))))))))))
end
end K25

set_option Elab.async false
set_option linter.all false
set_option maxRecDepth 100000
set_option maxHeartbeats 4000000
set_option autoImplicit false
/-! k25: the plain part. -/
namespace K25
open PySem PySem.Spec PyProof.Rows L2 Bo
theorem dr : c_law_draw = c_draw := rfl
theorem pn : c_law_pen = c_pen := rfl
theorem rangeO (hc : Hc) {n : Nat} (h : n ≤ 1000) : itR hc (.int (n : Int)) = some (Bo.upTo 0 n) := by
  unfold itR
  have c : (decide (-2 ^ 62 ≤ (n : Int)) && decide ((n : Int) < 2 ^ 62)) = true := by
    rw [Bool.and_eq_true]
    exact ⟨decide_eq_true (by omega), decide_eq_true (by omega)⟩
  simp only [Int.toNat_natCast, c, if_true]
def pen (o : Ob) : Hc := ⟨1, [(0, o)]⟩
def seven : List D := [.str "", .str "a", ((mulT hc0 (.str "x") (.int 40)).getD .non), .str "two words", .str "'quoted'", .str "a\nb", .str "{}"]
def errs : List D := (List.range 22).map D.ex
theorem made (hc : Hc) (a0 a1 a2 a3 a4 a5 a6 a7 a8 a9 a10 a11 a12 a13 a14 a15 a16 a17 a18 a19 a20 a21 : D) :
    c_law_made [.lst [a0, a1, a2, a3, a4, a5, a6, a7, a8, a9, a10, a11, a12, a13, a14, a15, a16, a17, a18, a19, a20, a21]] hc = .ok (.lst errs) hc := by kernel_rfl
theorem made' (hc : Hc) : ∀ ws : List D, ws.length = 22 → c_law_made [.lst ws] hc = .ok (.lst errs) hc
  | [a0, a1, a2, a3, a4, a5, a6, a7, a8, a9, a10, a11, a12, a13, a14, a15, a16, a17, a18, a19, a20, a21], _ => made hc ..
def body : Sl → Hc → RS := (seqS (asgS 6 (opE ixD (vE 4) (vE 5)))
    (seqS (ifS (orT (nT (bT (unE (isXD (ancT 22 anc 0)) (vE 6)))) (nT (bT (unE (isXD (valT 22)) (vE 6))))) (retS (cE (.bl false))) (nS))
    (seqS (asgS 7 (lcE [9] (nmG 9) (itE itR (cE (.int 21))) (yT) (opE eqO (opE addD (vE 9) (cE (.int 1))) (vE 5))))
    (ifS (bT (opE neO (blE reprA (kA (callE c_law_kinds (kA (vE 6) (nA))) (nA))) (blE reprA (kA (vE 7) (nA))))) (retS (cE (.bl false))) (nS)))))
def due (k : Nat) : List D := (List.range 21).map fun (j : Nat) => .bl (decide ((j : Int) + 1 = (k : Int)))
theorem fit_lst {k w : Nat} {ds : List D} (h : ∀ d ∈ ds, Fit k w d) : Fit (k + 1) ((w + 1) * ds.length) (.lst ds) := by
  obtain ⟨ps, a, b, c, e, f, l⟩ := fit_all h
  refine ⟨.list ps, by simp only [toPy, a, Option.map_some], by simp only [PyData.showable, b], by simp only [PyData.leavesShort, c], ?_, ?_, by simp only [PyData.canLay0, l]⟩
  · rw [PyData.weight]; exact e
  · rw [PyData.depth]; omega
theorem repr_bls (hc : Hc) {bs : List Bool} (h : bs.length ≤ 1000) : ∃ y, reprA hc [.lst (bs.map D.bl)] = some (.str y) := by
  have f : Fit 1 (1 * (bs.map D.bl).length) (.lst (bs.map D.bl)) := fit_lst fun d hd => by
    obtain ⟨b, _, rfl⟩ := List.mem_map.mp hd
    exact fit_bl b
  exact f.repr (hc := hc) (by omega) (by rw [List.length_map]; omega) nofun nofun
def kb (k : Nat) : List Bool := (List.range 21).map fun (j : Nat) => decide (j + 1 = k)
theorem kinds (hc : Hc) : ∀ k : Nat, k < 22 → c_law_kinds [.ex k] hc = .ok (.lst ((kb k).map D.bl)) hc
  | 0, _ => by kernel_rfl | 1, _ => by kernel_rfl | 2, _ => by kernel_rfl | 3, _ => by kernel_rfl | 4, _ => by kernel_rfl | 5, _ => by kernel_rfl | 6, _ => by kernel_rfl | 7, _ => by kernel_rfl
  | 8, _ => by kernel_rfl | 9, _ => by kernel_rfl | 10, _ => by kernel_rfl | 11, _ => by kernel_rfl | 12, _ => by kernel_rfl | 13, _ => by kernel_rfl | 14, _ => by kernel_rfl | 15, _ => by kernel_rfl
  | 16, _ => by kernel_rfl | 17, _ => by kernel_rfl | 18, _ => by kernel_rfl | 19, _ => by kernel_rfl | 20, _ => by kernel_rfl | 21, _ => by kernel_rfl
  | n + 22, h => absurd h (by omega)
def pre : Sl → Hc → RS := seqS (asgS 6 (opE ixD (vE 4) (vE 5)))
    (seqS (ifS (orT (nT (bT (unE (isXD (ancT 22 anc 0)) (vE 6)))) (nT (bT (unE (isXD (valT 22)) (vE 6))))) (retS (cE (.bl false))) (nS))
    (asgS 7 (lcE [9] (nmG 9) (itE itR (cE (.int 21))) (yT) (opE eqO (opE addD (vE 9) (cE (.int 1))) (vE 5)))))
theorem pres (hc : Hc) (x0 x1 x2 x3 x6 x7 : Option D) : ∀ k : Nat, k < 22 → pre [x0, x1, x2, x3, some (.lst errs), some (.int k), x6, x7, none, none] hc = .nx [x0, x1, x2, x3, some (.lst errs), some (.int k), some (.ex k), some (.lst ((kb k).map D.bl)), none, none] hc
  | 0, _ => by kernel_rfl | 1, _ => by kernel_rfl | 2, _ => by kernel_rfl | 3, _ => by kernel_rfl | 4, _ => by kernel_rfl | 5, _ => by kernel_rfl | 6, _ => by kernel_rfl | 7, _ => by kernel_rfl
  | 8, _ => by kernel_rfl | 9, _ => by kernel_rfl | 10, _ => by kernel_rfl | 11, _ => by kernel_rfl | 12, _ => by kernel_rfl | 13, _ => by kernel_rfl | 14, _ => by kernel_rfl | 15, _ => by kernel_rfl
  | 16, _ => by kernel_rfl | 17, _ => by kernel_rfl | 18, _ => by kernel_rfl | 19, _ => by kernel_rfl | 20, _ => by kernel_rfl | 21, _ => by kernel_rfl
  | n + 22, h => absurd h (by omega)
theorem seq_assoc (A B C E : Sl → Hc → RS) (sl : Sl) (hc : Hc) : seqS A (seqS B (seqS C E)) sl hc = seqS (seqS A (seqS B C)) E sl hc := by
  unfold seqS
  cases A sl hc with
  | nx s1 h1 =>
    dsimp only
    cases B s1 h1 with
    | nx s2 h2 => rfl
    | _ => rfl
  | _ => rfl
theorem ne_same (hc : Hc) (y : Str) : neO hc (.str y) (.str y) = some (.bl false) := by simp [neO, eqD]
theorem eq_same (hc : Hc) (y : Str) : eqO hc (.str y) (.str y) = some (.bl true) := by simp [eqO, eqD]
theorem turn (hc : Hc) (x0 x1 x2 x3 x6 x7 : Option D) (k : Nat) (h : k < 22) : body [x0, x1, x2, x3, some (.lst errs), some (.int k), x6, x7, none, none] hc = .nx [x0, x1, x2, x3, some (.lst errs), some (.int k), some (.ex k), some (.lst ((kb k).map D.bl)), none, none] hc := by
  unfold body
  rw [seq_assoc]
  refine (seqN (pres hc x0 x1 x2 x3 x6 x7 k h)).trans ?_
  obtain ⟨y, e⟩ := repr_bls hc (bs := kb k) (by simp [kb])
  exact ifN (bO (opO (blO (k1 (callO (k1 (a := .ex k) rfl) (kinds hc k h))) e) (blO (k1 rfl) e) (ne_same hc y))) rfl
theorem upTo_ints (n : Nat) : Bo.upTo 0 n = (List.range n).map fun (i : Nat) => D.int (i : Int) := by
  unfold Bo.upTo
  congr 1
  funext i
  rw [Int.zero_add]
theorem turns (hc : Hc) (x0 x1 x2 x3 : Option D) : ∀ (ks : List Nat) (_ : ∀ k ∈ ks, k < 22) (x5 x6 x7 : Option D), ∃ y5 y6 y7, loopS (nmG 5) body (ks.map fun (i : Nat) => D.int (i : Int)) [x0, x1, x2, x3, some (.lst errs), x5, x6, x7, none, none] hc = .nx [x0, x1, x2, x3, some (.lst errs), y5, y6, y7, none, none] hc
  | [], _, x5, x6, x7 => ⟨x5, x6, x7, rfl⟩
  | k :: ks, h, x5, x6, x7 => by
    obtain ⟨y5, y6, y7, e⟩ := turns hc x0 x1 x2 x3 ks (fun z hz => h z (List.mem_cons_of_mem _ hz)) (some (.int k)) (some (.ex k)) (some (.lst ((kb k).map D.bl)))
    exact ⟨y5, y6, y7, (loopCons rfl (turn hc x0 x1 x2 x3 x6 x7 k (h k List.mem_cons_self))).trans e⟩
/-- what read makes of the three texts -/
def isInv (r : Res D) : Bool := match r with
  | .exc c _ => c == 6
  | _ => false
theorem isInv_ok {r : Res D} (h : isInv r = true) : ∃ hc, r = .exc 6 hc := by
  cases r with
  | exc c hc =>
    have : c = 6 := by simpa [isInv] using h
    subst this
    exact ⟨hc, rfl⟩
  | _ => cases h
theorem read0 (o : Ob) : isInv (c_read [.str ""] (pen o)) = true := by kernel_rfl
theorem read1 (o : Ob) : isInv (c_read [.str "select"] (pen o)) = true := by kernel_rfl
theorem read2 (o : Ob) : isInv (c_read [.str "select a"] (pen o)) = true := by kernel_rfl
def three : List D := [.str "", .str "select", .str "select a"]
theorem reads (o : Ob) {d : D} (h : d ∈ three) : ∃ hc, c_read [d] (pen o) = .exc 6 hc := by
  simp only [three, List.mem_cons, List.not_mem_nil, or_false] at h
  rcases h with rfl | rfl | rfl
  · exact isInv_ok (read0 o)
  · exact isInv_ok (read1 o)
  · exact isInv_ok (read2 o)
theorem last (hc : Hc) (x0 x1 x2 x3 x4 x5 x7 x8 x9 : Option D) : retS (andE (opE isnO (vE 6) (cE .non)) (opE eqO (blE reprA (kA (callE c_law_kinds (kA (vE 6) (nA))) (nA))) (blE reprA (kA (callE c_law_kinds (kA (excE 6 (cE (.str "a"))) (nA))) (nA))))) [x0, x1, x2, x3, x4, x5, some (.ex 6), x7, x8, x9] hc = .rt (.bl true) hc := by
  obtain ⟨y, e⟩ := repr_bls hc (bs := kb 6) (by simp [kb])
  have h1 : opE isnO (vE 6) (cE .non) [x0, x1, x2, x3, x4, x5, some (.ex 6), x7, x8, x9] hc = .ok (.bl true) hc := rfl
  have h2 : opE eqO (blE reprA (kA (callE c_law_kinds (kA (vE 6) (nA))) (nA))) (blE reprA (kA (callE c_law_kinds (kA (excE 6 (cE (.str "a"))) (nA))) (nA))) [x0, x1, x2, x3, x4, x5, some (.ex 6), x7, x8, x9] hc = .ok (.bl true) hc :=
    opO (blO (k1 (callO (k1 (a := .ex 6) rfl) (kinds hc 6 (by omega)))) e) (blO (k1 (callO (k1 (a := .ex 6) rfl) (kinds hc 6 (by omega)))) e) (eq_same hc y)
  refine retO ?_
  unfold andE
  rw [h1]
  exact h2
theorem at_of {xs : List D} {k : Nat} (h : k < xs.length) : ∃ x ∈ xs, atI xs (k : Int) = some x := by
  refine ⟨xs[k], List.getElem_mem h, ?_⟩
  unfold atI
  have : ixN xs.length (k : Int) = some k := by
    unfold ixN
    rw [if_pos (by omega), if_pos (by omega)]
    simp
  rw [this]
  simp [List.getElem?_eq_getElem h]
/-- one of some written things, by a draw -/
theorem pick {hc : Hc} {sl : Sl} {n u : Nat} {i : Int} {fl : Sl → Hc → Res D} {xs : List D} (j : Nat) (hi : i = (u : Int)) (h0 : sl[j]? = some (some (.loc 0))) (b : Bud 0 (n + 1) hc) (e : fl sl hc = .ok (.lst xs) hc) (hl : xs.length = u) (hu : 0 < u) (hu2 : u < 1000) :
    ∃ x hc', x ∈ xs ∧ opE ixD fl (callE c_law_draw (kA (vE j) (kA (cE (.int i)) (nA)))) sl hc = .ok x hc' ∧ Bud 0 n hc' ∧ Same 0 hc hc' := by
  subst hi
  obtain ⟨r, hc', l, e2, b2, s2⟩ := bud_nat u b hu (by omega)
  obtain ⟨x, hx, ex⟩ := at_of (xs := xs) (k := r) (by omega)
  exact ⟨x, hc', hx, opO e (callO (kO (vO h0) (k1 rfl)) e2) (show atI xs (r : Int) = _ from ex), b2, s2⟩
theorem shape {hc hc' : Hc} {o : Ob} (h : hc = pen o) (s : Same 0 hc hc') : ∃ o', hc' = pen o' := by
  subst h
  obtain ⟨o', e⟩ := s.3 [] o rfl nofun
  refine ⟨o', ?_⟩
  obtain ⟨nx, m⟩ := hc'
  have h1 : nx = 1 := s.1
  have h2 : m = [(0, o')] := e
  subst h1 h2
  rfl
theorem pen_shape (ns : List Int) : ∃ hc o, c_law_pen [scr ns] hc0 = .ok (.loc 0) hc ∧ Bud 0 1000000000 hc ∧ hc = pen o := by
  obtain ⟨o, e, b⟩ := pen_made2 ns
  exact ⟨_, o, e, b, rfl⟩
theorem law_ok : ∀ ns : List Int, ns.length ≤ 63 → (∀ i ∈ ns, PySem.Builtin.Int.intBits i ≤ 1048576) → ∃ h, c_law [scr ns] hc0 = .ok (.bl true) h := fun ns _ _ => by
  obtain ⟨hc1, o1, e1, b1, p1⟩ := pen_shape ns
  have hw := mapC_bud (ft := nmG 5) (fe := opE ixD (vE 2) (callE c_law_draw (kA (vE 1) (kA (cE (.int 7)) (nA))))) (sl := [some (scr ns), some (.loc 0), some (.lst seven), none, none, none, none, none, none, none]) (P := fun _ => True) (p := 0) (k := 1) (fun d => ⟨_, rfl, fun n hc b => by
    obtain ⟨x, hc', _, e, b', s⟩ := pick (sl := [some (scr ns), some (.loc 0), some (.lst seven), none, none, some d, none, none, none, none]) (hc := hc) (n := n) (u := 7) (i := 7) (fl := vE 2) (xs := seven) 1 rfl rfl b rfl rfl (by omega) (by omega)
    exact ⟨x, hc', e, trivial, b', s⟩⟩) (Bo.upTo 0 22) 1000 hc1 (b1.mono (by simp [Bo.upTo]))
  obtain ⟨ws, hc2, e2, l2, _, b2, s2⟩ := hw
  obtain ⟨o2, p2⟩ := shape p1 s2
  have lw : ws.length = 22 := by rw [l2]; simp [Bo.upTo]
  obtain ⟨y5, y6, y7, e3⟩ := turns hc2 (some (scr ns)) (some (.loc 0)) (some (.lst seven)) (some (.lst ws)) (List.range 22) (fun k hk => List.mem_range.mp hk) none none none
  rw [← upTo_ints] at e3
  obtain ⟨x, hc3, hx, e4, b4, s4⟩ := pick (sl := [some (scr ns), some (.loc 0), some (.lst seven), some (.lst ws), some (.lst errs), y5, some .non, y7, none, none]) (hc := hc2) (n := 10) (u := 3) (i := 3) (fl := lstE (kA (cE (.str "")) (kA (cE (.str "select")) (kA (cE (.str "select a")) (nA))))) (xs := three) 1 rfl rfl (b2.mono (by omega)) rfl rfl (by omega) (by omega)
  obtain ⟨o3, p3⟩ := shape p2 s4
  obtain ⟨hc4, e5⟩ := reads o3 hx
  rw [← p3] at e5
  have t1 : asgS 1 (callE c_law_pen (kA (vE 0) (nA))) [some (scr ns), none, none, none, none, none, none, none, none, none] hc0 = .nx [some (scr ns), some (.loc 0), none, none, none, none, none, none, none, none] hc1 := asgO (callO (k1 rfl) e1)
  have t2 : asgS 2 (lstE (kA (cE (.str "")) (kA (cE (.str "a")) (kA (opE mulT (cE (.str "x")) (cE (.int 40))) (kA (cE (.str "two words")) (kA (cE (.str "'quoted'")) (kA (cE (.str "a\nb")) (kA (cE (.str "{}")) (nA))))))))) [some (scr ns), some (.loc 0), none, none, none, none, none, none, none, none] hc1 = .nx [some (scr ns), some (.loc 0), some (.lst seven), none, none, none, none, none, none, none] hc1 := by kernel_rfl
  have t3 := lcO (t := yT) (ft := nmG 5) (vs := [5]) (sl := [some (scr ns), some (.loc 0), some (.lst seven), none, none, none, none, none, none, none]) (itO (f := cE (.int 22)) (hc := hc1) rfl (rangeO hc1 (n := 22) (by omega))) e2 (by omega)
  have t5 : exS (callE c_read (kA (opE ixD (lstE (kA (cE (.str "")) (kA (cE (.str "select")) (kA (cE (.str "select a")) (nA))))) (callE c_law_draw (kA (vE 1) (kA (cE (.int 3)) (nA))))) (nA))) [some (scr ns), some (.loc 0), some (.lst seven), some (.lst ws), some (.lst errs), y5, some .non, y7, none, none] hc2 = .exc 6 [some (scr ns), some (.loc 0), some (.lst seven), some (.lst ws), some (.lst errs), y5, some .non, y7, none, none] hc4 := by
    unfold exS
    rw [callO (k1 e4) e5]
    rfl
  have t6 : tryS (ancT 22 anc 0) 8 6 (exS (callE c_read (kA (opE ixD (lstE (kA (cE (.str "")) (kA (cE (.str "select")) (kA (cE (.str "select a")) (nA))))) (callE c_law_draw (kA (vE 1) (kA (cE (.int 3)) (nA))))) (nA)))) [some (scr ns), some (.loc 0), some (.lst seven), some (.lst ws), some (.lst errs), y5, some .non, y7, none, none] hc2 = .nx [some (scr ns), some (.loc 0), some (.lst seven), some (.lst ws), some (.lst errs), y5, some (.ex 6), y7, none, none] hc4 := by
    unfold tryS
    rw [t5]
    rfl
  exact ⟨hc4, fnO rfl ((seqN t1).trans ((seqN t2).trans ((seqN (asgO t3)).trans ((seqN (asgO (callO (k1 rfl) (made' hc2 ws lw)))).trans ((seqN (forO (itO (blO (k1 rfl) rfl) (rangeO hc2 (n := 22) (by omega))) e3)).trans ((seqN (asgO rfl)).trans ((seqN t6).trans (last ..))))))))⟩
end K25

set_option Elab.async false
set_option linter.all false
set_option maxRecDepth 100000
set_option maxHeartbeats 4000000
set_option autoImplicit false
/-! The head: printed by wip/tr2.py. -/
namespace Bo
open PySem PySem.Spec PyProof.Rows L2
def obsZG (as : List Addr) (fa : List He.Fa) (fn : List He.DefD) (ex : List (PySem.W.Frag → Bool)) (g : Addr → Option Obj) : AlX := obsX fa fn ex (He.frG g as)
def hookZ (as : List Addr) (fa : List He.Fa) (fn : List He.DefD) (ex : List (PySem.W.Frag → Bool)) : PySem.W.Hook where
  α := AlX
  obs := fun s => obsZG as fa fn ex s.heap.get?
  val := fun _ => valX fn
  says := fun _ h => ∃ K : PySem.W.Frag, K.In h ∧ SaysX fa fn ex K
  of := fun _ _ e => ⟨_, He.frG_in, e⟩
  keeps := fun _ _ _ ⟨K, hK, c⟩ k => ⟨K, PySem.W.Frag.In.keeps hK k, c⟩
theorem obsZG_eq {as : List Addr} {fa : List He.Fa} {fn : List He.DefD} {ex : List (PySem.W.Frag → Bool)} {g : Addr → Option Obj} {s : Shared} (h : ∀ a, g a = s.heap.get? a) : obsZG as fa fn ex g = (hookZ as fa fn ex).obs s := by
  have e : g = s.heap.get? := funext h
  subst e
  rfl
end Bo
namespace K25
open PySem PySem.Spec PyProof.Rows L2 Bo
def D_is_value : He.DefD := ⟨("is_value", none), "is_value", "is_value", defArgs (top 28), defBody (top 28), defScope (top 28), [], []⟩
def D_is_name : He.DefD := ⟨("is_name", none), "is_name", "is_name", defArgs (top 29), defBody (top 29), defScope (top 29), [], []⟩
def D_is_values : He.DefD := ⟨("is_values", none), "is_values", "is_values", defArgs (top 30), defBody (top 30), defScope (top 30), [], []⟩
def D_is_column_form : He.DefD := ⟨("is_column_form", none), "is_column_form", "is_column_form", defArgs (top 36), defBody (top 36), defScope (top 36), [], []⟩
def D_is_call_form : He.DefD := ⟨("is_call_form", none), "is_call_form", "is_call_form", defArgs (top 37), defBody (top 37), defScope (top 37), [], []⟩
def D_is_told : He.DefD := ⟨("is_told", none), "is_told", "is_told", defArgs (top 38), defBody (top 38), defScope (top 38), [], []⟩
def D_is_source : He.DefD := ⟨("is_source", none), "is_source", "is_source", defArgs (top 39), defBody (top 39), defScope (top 39), [], []⟩
def D_is_condition : He.DefD := ⟨("is_condition", none), "is_condition", "is_condition", defArgs (top 40), defBody (top 40), defScope (top 40), [], []⟩
def D_is_row_of : He.DefD := ⟨("is_row_of", none), "is_row_of", "is_row_of", defArgs (top 41), defBody (top 41), defScope (top 41), [], []⟩
def D_is_statement : He.DefD := ⟨("is_statement", none), "is_statement", "is_statement", defArgs (top 42), defBody (top 42), defScope (top 42), [], []⟩
def D_write_column : He.DefD := ⟨("write_column", none), "write_column", "write_column", defArgs (top 45), defBody (top 45), defScope (top 45), [], []⟩
def D_write_term : He.DefD := ⟨("write_term", none), "write_term", "write_term", defArgs (top 46), defBody (top 46), defScope (top 46), [], []⟩
def D_write_told : He.DefD := ⟨("write_told", none), "write_told", "write_told", defArgs (top 47), defBody (top 47), defScope (top 47), [], []⟩
def D_write_source : He.DefD := ⟨("write_source", none), "write_source", "write_source", defArgs (top 48), defBody (top 48), defScope (top 48), [], []⟩
def D_write_values : He.DefD := ⟨("write_values", none), "write_values", "write_values", defArgs (top 49), defBody (top 49), defScope (top 49), [], []⟩
def D_write_condition : He.DefD := ⟨("write_condition", none), "write_condition", "write_condition", defArgs (top 50), defBody (top 50), defScope (top 50), [], []⟩
def D_write : He.DefD := ⟨("write", none), "write", "write", defArgs (top 51), defBody (top 51), defScope (top 51), [], []⟩
def D_is_letter : He.DefD := ⟨("is_letter", none), "is_letter", "is_letter", defArgs (top 52), defBody (top 52), defScope (top 52), [], []⟩
def D_words_in : He.DefD := ⟨("words_in", none), "words_in", "words_in", defArgs (top 53), defBody (top 53), defScope (top 53), [], []⟩
def D_Reader____init__ : He.DefD := ⟨("Reader", some "__init__"), "__init__", "Reader.__init__", defArgs (mthOf (top 54) 0), defBody (mthOf (top 54) 0), defScope (mthOf (top 54) 0), [], []⟩
def D_Reader__next_word : He.DefD := ⟨("Reader", some "next_word"), "next_word", "Reader.next_word", defArgs (mthOf (top 54) 1), defBody (mthOf (top 54) 1), defScope (mthOf (top 54) 1), [], []⟩
def D_Reader__take : He.DefD := ⟨("Reader", some "take"), "take", "Reader.take", defArgs (mthOf (top 54) 2), defBody (mthOf (top 54) 2), defScope (mthOf (top 54) 2), [], []⟩
def D_Reader__skip : He.DefD := ⟨("Reader", some "skip"), "skip", "Reader.skip", defArgs (mthOf (top 54) 3), defBody (mthOf (top 54) 3), defScope (mthOf (top 54) 3), [], []⟩
def D_Reader__comes : He.DefD := ⟨("Reader", some "comes"), "comes", "Reader.comes", defArgs (mthOf (top 54) 4), defBody (mthOf (top 54) 4), defScope (mthOf (top 54) 4), [], []⟩
def D_Reader__take_name : He.DefD := ⟨("Reader", some "take_name"), "take_name", "Reader.take_name", defArgs (mthOf (top 54) 5), defBody (mthOf (top 54) 5), defScope (mthOf (top 54) 5), [], []⟩
def D_Reader__take_value : He.DefD := ⟨("Reader", some "take_value"), "take_value", "Reader.take_value", defArgs (mthOf (top 54) 6), defBody (mthOf (top 54) 6), defScope (mthOf (top 54) 6), [], []⟩
def D_Reader__take_column : He.DefD := ⟨("Reader", some "take_column"), "take_column", "Reader.take_column", defArgs (mthOf (top 54) 7), defBody (mthOf (top 54) 7), defScope (mthOf (top 54) 7), [], []⟩
def D_Reader__is_label : He.DefD := ⟨("Reader", some "is_label"), "is_label", "Reader.is_label", defArgs (mthOf (top 54) 14), defBody (mthOf (top 54) 14), defScope (mthOf (top 54) 14), [], []⟩
def D_Reader__take_source : He.DefD := ⟨("Reader", some "take_source"), "take_source", "Reader.take_source", defArgs (mthOf (top 54) 13), defBody (mthOf (top 54) 13), defScope (mthOf (top 54) 13), [], []⟩
def D_Reader__take_part : He.DefD := ⟨("Reader", some "take_part"), "take_part", "Reader.take_part", defArgs (mthOf (top 54) 8), defBody (mthOf (top 54) 8), defScope (mthOf (top 54) 8), [], []⟩
def D_Reader__take_parts : He.DefD := ⟨("Reader", some "take_parts"), "take_parts", "Reader.take_parts", defArgs (mthOf (top 54) 9), defBody (mthOf (top 54) 9), defScope (mthOf (top 54) 9), [], []⟩
def D_Reader__take_term : He.DefD := ⟨("Reader", some "take_term"), "take_term", "Reader.take_term", defArgs (mthOf (top 54) 11), defBody (mthOf (top 54) 11), defScope (mthOf (top 54) 11), [], []⟩
def D_Reader__take_told : He.DefD := ⟨("Reader", some "take_told"), "take_told", "Reader.take_told", defArgs (mthOf (top 54) 12), defBody (mthOf (top 54) 12), defScope (mthOf (top 54) 12), [], []⟩
def D_Reader__take_values : He.DefD := ⟨("Reader", some "take_values"), "take_values", "Reader.take_values", defArgs (mthOf (top 54) 10), defBody (mthOf (top 54) 10), defScope (mthOf (top 54) 10), [], []⟩
def D_Reader__take_condition : He.DefD := ⟨("Reader", some "take_condition"), "take_condition", "Reader.take_condition", defArgs (mthOf (top 54) 15), defBody (mthOf (top 54) 15), defScope (mthOf (top 54) 15), [], []⟩
def D_Reader__take_statement : He.DefD := ⟨("Reader", some "take_statement"), "take_statement", "Reader.take_statement", defArgs (mthOf (top 54) 16), defBody (mthOf (top 54) 16), defScope (mthOf (top 54) 16), [], []⟩
def D_Reader__finish : He.DefD := ⟨("Reader", some "finish"), "finish", "Reader.finish", defArgs (mthOf (top 54) 17), defBody (mthOf (top 54) 17), defScope (mthOf (top 54) 17), [], []⟩
def D_read : He.DefD := ⟨("read", none), "read", "read", defArgs (top 55), defBody (top 55), defScope (top 55), [], []⟩
def D_law_pen : He.DefD := ⟨("_law_pen", none), "_law_pen", "_law_pen", defArgs (top 57), defBody (top 57), defScope (top 57), [], []⟩
def D_law_next : He.DefD := ⟨("_law_next", none), "_law_next", "_law_next", defArgs (top 58), defBody (top 58), defScope (top 58), [], []⟩
def D_law_draw : He.DefD := ⟨("_law_draw", none), "_law_draw", "_law_draw", defArgs (top 59), defBody (top 59), defScope (top 59), [], []⟩
def D_law_made : He.DefD := ⟨("_law_made", none), "_law_made", "_law_made", defArgs (top 60), defBody (top 60), defScope (top 60), [], []⟩
def D_law_kinds : He.DefD := ⟨("_law_kinds", none), "_law_kinds", "_law_kinds", defArgs (top 61), defBody (top 61), defScope (top 61), [], []⟩
def D_law : He.DefD := ⟨("law", none), "law", "law", defArgs (top 62), defBody (top 62), defScope (top 62), [], []⟩
def fn : List He.DefD := [D_is_value, D_is_name, D_is_values, D_is_column_form, D_is_call_form, D_is_told, D_is_source, D_is_condition, D_is_row_of, D_is_statement, D_write_column, D_write_term, D_write_told, D_write_source, D_write_values, D_write_condition, D_write, D_is_letter, D_words_in, D_Reader____init__, D_Reader__next_word, D_Reader__take, D_Reader__skip, D_Reader__comes, D_Reader__take_name, D_Reader__take_value, D_Reader__take_column, D_Reader__is_label, D_Reader__take_source, D_Reader__take_part, D_Reader__take_parts, D_Reader__take_term, D_Reader__take_told, D_Reader__take_values, D_Reader__take_condition, D_Reader__take_statement, D_Reader__finish, D_read, D_law_pen, D_law_next, D_law_draw, D_law_made, D_law_kinds, D_law]
def fa : List He.Fa := [(.glo "is_value" : He.Fa), (.glo "is_name" : He.Fa), (.glo "is_values" : He.Fa), (.glo "is_column_form" : He.Fa), (.glo "is_call_form" : He.Fa), (.glo "is_told" : He.Fa), (.glo "is_source" : He.Fa), (.glo "is_condition" : He.Fa), (.glo "is_row_of" : He.Fa), (.glo "is_statement" : He.Fa), (.glo "write_column" : He.Fa), (.glo "write_term" : He.Fa), (.glo "write_told" : He.Fa), (.glo "write_source" : He.Fa), (.glo "write_values" : He.Fa), (.glo "write_condition" : He.Fa), (.glo "write" : He.Fa), (.glo "is_letter" : He.Fa), (.glo "words_in" : He.Fa), (.mkr "Reader" : He.Fa), (.meth "Reader" "next_word" : He.Fa), (.meth "Reader" "take" : He.Fa), (.meth "Reader" "skip" : He.Fa), (.meth "Reader" "comes" : He.Fa), (.meth "Reader" "take_name" : He.Fa), (.meth "Reader" "take_value" : He.Fa), (.meth "Reader" "take_column" : He.Fa), (.meth "Reader" "is_label" : He.Fa), (.meth "Reader" "take_source" : He.Fa), (.meth "Reader" "take_part" : He.Fa), (.meth "Reader" "take_parts" : He.Fa), (.meth "Reader" "take_term" : He.Fa), (.meth "Reader" "take_told" : He.Fa), (.meth "Reader" "take_values" : He.Fa), (.meth "Reader" "take_condition" : He.Fa), (.meth "Reader" "take_statement" : He.Fa), (.meth "Reader" "finish" : He.Fa), (.glo "read" : He.Fa), (.glo "_law_pen" : He.Fa), (.glo "_law_next" : He.Fa), (.glo "_law_draw" : He.Fa), (.glo "_law_made" : He.Fa), (.glo "_law_kinds" : He.Fa), (.glo "law" : He.Fa), (.glo "Reader" : He.Fa), (.cls "Reader" : He.Fa), (.noat "Reader" "words" : He.Fa), (.noat "Reader" "place" : He.Fa), (.free "isinstance" : He.Fa), (.free "str" : He.Fa), (.free "len" : He.Fa), (.free "all" : He.Fa), (.free "tuple" : He.Fa), (.free "list" : He.Fa), (.free "sorted" : He.Fa), (.free "set" : He.Fa), (.free "bool" : He.Fa), (.free "int" : He.Fa), (.free "range" : He.Fa), (.free "ValueError" : He.Fa), (.free "repr" : He.Fa), (.int "MOST_LETTERS" 8 : He.Fa), (.str "LETTERS" "abcdefghijklmnopqrstuvwxyz" : He.Fa), (.glo "RESERVED" : He.Fa), (.int "MOST_VALUES" 8 : He.Fa), (.int "DEPTH" 3 : He.Fa), (.int "MOST_TOLD" 8 : He.Fa), (.int "MOST_SOURCES" 4 : He.Fa), (.int "MOST_CONDITIONS" 8 : He.Fa), (.str "DOUBT" "an object is no text of a statement" : He.Fa)]
def ex : List (PySem.W.Frag → Bool) := [fun K => He.tupB K "RESERVED" ((["select", "distinct", "as", "from", "where", "and", "in"] : List Str).map He.Dv.str), fun K => excB excN anc K]
def nums : List Str := [("BoundError" : Str), ("InvalidName" : Str), ("InvalidCatalog" : Str), ("InvalidDeed" : Str), ("InvalidStatement" : Str), ("InvalidPath" : Str), ("InvalidText" : Str), ("InvalidEntry" : Str), ("InvalidPart" : Str), ("InvalidLine" : Str), ("Unknown" : Str), ("Taken" : Str), ("Unfit" : Str), ("NoRight" : Str), ("Ring" : Str), ("Ambiguous" : Str), ("OnCall" : Str), ("Mismatch" : Str), ("DuplicateName" : Str), ("UnknownName" : Str), ("Busy" : Str), ("NotBegun" : Str), ("Reader" : Str), ("is_condition" : Str), ("is_told" : Str), ("is_source" : Str)]
def gx (K : PySem.W.Frag) : Gx := ⟨K, fun i => He.ga K (nums.getD i "")⟩
abbrev R : PySem.W.OpenRow := PySem.W.OpenLaw.row PySem.Challenge.rw_boundonce_k25_errors_apart
def as0 : List Addr := [2, 3, 6, 4, 24, 37, 49, 61, 73, 85, 97, 109, 121, 133, 145, 157, 169, 181, 193, 205, 217, 229, 241, 253, 265, 277, 280, 285, 292, 297, 304, 309, 314, 321, 326, 331, 336, 343, 348, 353]
def as1 : List Addr := [360, 365, 372, 377, 384, 391, 527, 538, 545, 552, 559, 566, 573, 578, 0, 23, 36, 48, 60, 72, 84, 96, 108, 120, 132, 144, 156, 168, 180, 192, 204, 216, 228, 240, 252, 264, 276, 284, 291, 296]
def as2 : List Addr := [303, 308, 313, 320, 325, 330, 335, 342, 347, 352, 359, 364, 371, 376, 383, 390, 526, 537, 544, 551, 558, 565, 572, 577, 22, 25, 35, 47, 59, 71, 83, 95, 107, 119, 131, 143, 155, 167, 179, 191]
def as3 : List Addr := [203, 215, 227, 239, 251, 263, 275, 281, 282, 283, 286, 287, 288, 289, 290, 293, 294, 295, 298, 299, 300, 301, 302, 305, 306, 307, 310, 311, 312, 315, 316, 317, 318, 319, 322, 323, 324, 327, 328, 329]
def as4 : List Addr := [332, 333, 334, 337, 338, 339, 340, 341, 344, 345, 346, 349, 350, 351, 354, 355, 356, 357, 358, 361, 362, 363, 366, 367, 368, 369, 370, 373, 374, 375, 378, 379, 380, 381, 382, 385, 386, 387, 388, 389]
def as5 : List Addr := [405, 412, 419, 426, 433, 440, 447, 454, 461, 468, 475, 482, 489, 496, 503, 510, 517, 524, 525, 528, 529, 532, 533, 534, 535, 536, 539, 540, 541, 542, 543, 546, 547, 548, 549, 550, 553, 554, 555, 556]
def as6 : List Addr := [557, 560, 561, 562, 563, 564, 567, 568, 569, 570, 571, 574, 575, 576, 404, 411, 418, 425, 432, 439, 446, 453, 460, 467, 474, 481, 488, 495, 502, 509, 516, 523, 399, 400, 401, 402, 403, 406, 407, 408]
def as7 : List Addr := [409, 410, 413, 414, 415, 416, 417, 420, 421, 422, 423, 424, 427, 428, 429, 430, 431, 434, 435, 436, 437, 438, 441, 442, 443, 444, 445, 448, 449, 450, 451, 452, 455, 456, 457, 458, 459, 462, 463, 464]
def as8 : List Addr := [465, 466, 469, 470, 471, 472, 473, 476, 477, 478, 479, 480, 483, 484, 485, 486, 487, 490, 491, 492, 493, 494, 497, 498, 499, 500, 501, 504, 505, 506, 507, 508, 511, 512, 513, 514, 515, 518, 519, 520]
def as9 : List Addr := [521, 522]
def asA : List Addr := as0 ++ (as1 ++ (as2 ++ (as3 ++ (as4 ++ (as5 ++ (as6 ++ (as7 ++ (as8 ++ (as9)))))))))
abbrev hk : PySem.W.Hook := hookZ asA fa fn ex
def ob (s : PySem.W.SharedT) : AlX := obsZG asA fa fn ex (HandSHeadRun.getT s)
theorem ob_eq (s : PySem.W.SharedT) : ob s = hk.obs s.abs := obsZG_eq (HandSHeadRun.getT_eq s)
def loose : List Str := [("BoundError" : Str), ("InvalidName" : Str), ("InvalidCatalog" : Str), ("InvalidDeed" : Str), ("InvalidStatement" : Str), ("InvalidPath" : Str), ("InvalidText" : Str), ("InvalidEntry" : Str), ("InvalidPart" : Str), ("InvalidLine" : Str), ("Unknown" : Str), ("Taken" : Str), ("Unfit" : Str), ("NoRight" : Str), ("Ring" : Str), ("Ambiguous" : Str), ("OnCall" : Str), ("Mismatch" : Str), ("DuplicateName" : Str), ("UnknownName" : Str), ("Busy" : Str), ("NotBegun" : Str), ("LETTERS" : Str), ("MOST_LETTERS" : Str), ("MOST_VALUES" : Str), ("RESERVED" : Str), ("is_value" : Str), ("is_name" : Str), ("is_values" : Str), ("MOST_TOLD" : Str), ("MOST_SOURCES" : Str), ("MOST_CONDITIONS" : Str), ("DEPTH" : Str), ("is_column_form" : Str), ("is_call_form" : Str), ("is_told" : Str), ("is_source" : Str), ("is_condition" : Str), ("is_row_of" : Str), ("is_statement" : Str), ("DOUBT" : Str), ("write_column" : Str), ("write_term" : Str), ("write_told" : Str), ("write_source" : Str), ("write_values" : Str), ("write_condition" : Str), ("write" : Str), ("is_letter" : Str), ("words_in" : Str), ("Reader" : Str), ("read" : Str), ("_law_pen" : Str), ("_law_next" : Str), ("_law_draw" : Str), ("_law_made" : Str), ("_law_kinds" : Str)]
theorem run (w : World) : HandSHeadRun.RunEq R (PySem.W.view R.prog [62]) hk ob 8000 loose w := by
  intro os
  kernel_rfl
theorem facts {K : PySem.W.Frag} {h : Heap} {mg : Str → Option Value} (X : K.In h) (G : h.Ns mainGlobals mg) (c : SaysX fa fn ex K) : Mg (gx K) K mg where
  f_is_value := let ⟨fd, F⟩ := c.d.def_ 0 (d := D_is_value) rfl; ⟨_, fd, F, He.glo_ok X G (c.d.fact 0 (f := .glo "is_value") rfl)⟩
  f_is_name := let ⟨fd, F⟩ := c.d.def_ 1 (d := D_is_name) rfl; ⟨_, fd, F, He.glo_ok X G (c.d.fact 1 (f := .glo "is_name") rfl)⟩
  f_is_values := let ⟨fd, F⟩ := c.d.def_ 2 (d := D_is_values) rfl; ⟨_, fd, F, He.glo_ok X G (c.d.fact 2 (f := .glo "is_values") rfl)⟩
  f_is_column_form := let ⟨fd, F⟩ := c.d.def_ 3 (d := D_is_column_form) rfl; ⟨_, fd, F, He.glo_ok X G (c.d.fact 3 (f := .glo "is_column_form") rfl)⟩
  f_is_call_form := let ⟨fd, F⟩ := c.d.def_ 4 (d := D_is_call_form) rfl; ⟨_, fd, F, He.glo_ok X G (c.d.fact 4 (f := .glo "is_call_form") rfl)⟩
  f_is_told := let ⟨fd, F⟩ := c.d.def_ 5 (d := D_is_told) rfl; ⟨_, fd, F, He.glo_ok X G (c.d.fact 5 (f := .glo "is_told") rfl)⟩
  f_is_source := let ⟨fd, F⟩ := c.d.def_ 6 (d := D_is_source) rfl; ⟨_, fd, F, He.glo_ok X G (c.d.fact 6 (f := .glo "is_source") rfl)⟩
  f_is_condition := let ⟨fd, F⟩ := c.d.def_ 7 (d := D_is_condition) rfl; ⟨_, fd, F, He.glo_ok X G (c.d.fact 7 (f := .glo "is_condition") rfl)⟩
  f_is_row_of := let ⟨fd, F⟩ := c.d.def_ 8 (d := D_is_row_of) rfl; ⟨_, fd, F, He.glo_ok X G (c.d.fact 8 (f := .glo "is_row_of") rfl)⟩
  f_is_statement := let ⟨fd, F⟩ := c.d.def_ 9 (d := D_is_statement) rfl; ⟨_, fd, F, He.glo_ok X G (c.d.fact 9 (f := .glo "is_statement") rfl)⟩
  f_write_column := let ⟨fd, F⟩ := c.d.def_ 10 (d := D_write_column) rfl; ⟨_, fd, F, He.glo_ok X G (c.d.fact 10 (f := .glo "write_column") rfl)⟩
  f_write_term := let ⟨fd, F⟩ := c.d.def_ 11 (d := D_write_term) rfl; ⟨_, fd, F, He.glo_ok X G (c.d.fact 11 (f := .glo "write_term") rfl)⟩
  f_write_told := let ⟨fd, F⟩ := c.d.def_ 12 (d := D_write_told) rfl; ⟨_, fd, F, He.glo_ok X G (c.d.fact 12 (f := .glo "write_told") rfl)⟩
  f_write_source := let ⟨fd, F⟩ := c.d.def_ 13 (d := D_write_source) rfl; ⟨_, fd, F, He.glo_ok X G (c.d.fact 13 (f := .glo "write_source") rfl)⟩
  f_write_values := let ⟨fd, F⟩ := c.d.def_ 14 (d := D_write_values) rfl; ⟨_, fd, F, He.glo_ok X G (c.d.fact 14 (f := .glo "write_values") rfl)⟩
  f_write_condition := let ⟨fd, F⟩ := c.d.def_ 15 (d := D_write_condition) rfl; ⟨_, fd, F, He.glo_ok X G (c.d.fact 15 (f := .glo "write_condition") rfl)⟩
  f_write := let ⟨fd, F⟩ := c.d.def_ 16 (d := D_write) rfl; ⟨_, fd, F, He.glo_ok X G (c.d.fact 16 (f := .glo "write") rfl)⟩
  f_is_letter := let ⟨fd, F⟩ := c.d.def_ 17 (d := D_is_letter) rfl; ⟨_, fd, F, He.glo_ok X G (c.d.fact 17 (f := .glo "is_letter") rfl)⟩
  f_words_in := let ⟨fd, F⟩ := c.d.def_ 18 (d := D_words_in) rfl; ⟨_, fd, F, He.glo_ok X G (c.d.fact 18 (f := .glo "words_in") rfl)⟩
  f_Reader____init__ := let ⟨fd, F⟩ := c.d.def_ 19 (d := D_Reader____init__) rfl; ⟨_, fd, F, He.mkr_ok (c.d.fact 19 (f := .mkr "Reader") rfl), He.glo_ok X G (c.d.fact 44 (f := .glo "Reader") rfl)⟩
  f_Reader__next_word := let ⟨fd, F⟩ := c.d.def_ 20 (d := D_Reader__next_word) rfl; ⟨_, fd, F, He.cls_ok (c.d.fact 45 (f := .cls "Reader") rfl), He.meth_ok (c.d.fact 20 (f := .meth "Reader" "next_word") rfl)⟩
  f_Reader__take := let ⟨fd, F⟩ := c.d.def_ 21 (d := D_Reader__take) rfl; ⟨_, fd, F, He.cls_ok (c.d.fact 45 (f := .cls "Reader") rfl), He.meth_ok (c.d.fact 21 (f := .meth "Reader" "take") rfl)⟩
  f_Reader__skip := let ⟨fd, F⟩ := c.d.def_ 22 (d := D_Reader__skip) rfl; ⟨_, fd, F, He.cls_ok (c.d.fact 45 (f := .cls "Reader") rfl), He.meth_ok (c.d.fact 22 (f := .meth "Reader" "skip") rfl)⟩
  f_Reader__comes := let ⟨fd, F⟩ := c.d.def_ 23 (d := D_Reader__comes) rfl; ⟨_, fd, F, He.cls_ok (c.d.fact 45 (f := .cls "Reader") rfl), He.meth_ok (c.d.fact 23 (f := .meth "Reader" "comes") rfl)⟩
  f_Reader__take_name := let ⟨fd, F⟩ := c.d.def_ 24 (d := D_Reader__take_name) rfl; ⟨_, fd, F, He.cls_ok (c.d.fact 45 (f := .cls "Reader") rfl), He.meth_ok (c.d.fact 24 (f := .meth "Reader" "take_name") rfl)⟩
  f_Reader__take_value := let ⟨fd, F⟩ := c.d.def_ 25 (d := D_Reader__take_value) rfl; ⟨_, fd, F, He.cls_ok (c.d.fact 45 (f := .cls "Reader") rfl), He.meth_ok (c.d.fact 25 (f := .meth "Reader" "take_value") rfl)⟩
  f_Reader__take_column := let ⟨fd, F⟩ := c.d.def_ 26 (d := D_Reader__take_column) rfl; ⟨_, fd, F, He.cls_ok (c.d.fact 45 (f := .cls "Reader") rfl), He.meth_ok (c.d.fact 26 (f := .meth "Reader" "take_column") rfl)⟩
  f_Reader__is_label := let ⟨fd, F⟩ := c.d.def_ 27 (d := D_Reader__is_label) rfl; ⟨_, fd, F, He.cls_ok (c.d.fact 45 (f := .cls "Reader") rfl), He.meth_ok (c.d.fact 27 (f := .meth "Reader" "is_label") rfl)⟩
  f_Reader__take_source := let ⟨fd, F⟩ := c.d.def_ 28 (d := D_Reader__take_source) rfl; ⟨_, fd, F, He.cls_ok (c.d.fact 45 (f := .cls "Reader") rfl), He.meth_ok (c.d.fact 28 (f := .meth "Reader" "take_source") rfl)⟩
  f_Reader__take_part := let ⟨fd, F⟩ := c.d.def_ 29 (d := D_Reader__take_part) rfl; ⟨_, fd, F, He.cls_ok (c.d.fact 45 (f := .cls "Reader") rfl), He.meth_ok (c.d.fact 29 (f := .meth "Reader" "take_part") rfl)⟩
  f_Reader__take_parts := let ⟨fd, F⟩ := c.d.def_ 30 (d := D_Reader__take_parts) rfl; ⟨_, fd, F, He.cls_ok (c.d.fact 45 (f := .cls "Reader") rfl), He.meth_ok (c.d.fact 30 (f := .meth "Reader" "take_parts") rfl)⟩
  f_Reader__take_term := let ⟨fd, F⟩ := c.d.def_ 31 (d := D_Reader__take_term) rfl; ⟨_, fd, F, He.cls_ok (c.d.fact 45 (f := .cls "Reader") rfl), He.meth_ok (c.d.fact 31 (f := .meth "Reader" "take_term") rfl)⟩
  f_Reader__take_told := let ⟨fd, F⟩ := c.d.def_ 32 (d := D_Reader__take_told) rfl; ⟨_, fd, F, He.cls_ok (c.d.fact 45 (f := .cls "Reader") rfl), He.meth_ok (c.d.fact 32 (f := .meth "Reader" "take_told") rfl)⟩
  f_Reader__take_values := let ⟨fd, F⟩ := c.d.def_ 33 (d := D_Reader__take_values) rfl; ⟨_, fd, F, He.cls_ok (c.d.fact 45 (f := .cls "Reader") rfl), He.meth_ok (c.d.fact 33 (f := .meth "Reader" "take_values") rfl)⟩
  f_Reader__take_condition := let ⟨fd, F⟩ := c.d.def_ 34 (d := D_Reader__take_condition) rfl; ⟨_, fd, F, He.cls_ok (c.d.fact 45 (f := .cls "Reader") rfl), He.meth_ok (c.d.fact 34 (f := .meth "Reader" "take_condition") rfl)⟩
  f_Reader__take_statement := let ⟨fd, F⟩ := c.d.def_ 35 (d := D_Reader__take_statement) rfl; ⟨_, fd, F, He.cls_ok (c.d.fact 45 (f := .cls "Reader") rfl), He.meth_ok (c.d.fact 35 (f := .meth "Reader" "take_statement") rfl)⟩
  f_Reader__finish := let ⟨fd, F⟩ := c.d.def_ 36 (d := D_Reader__finish) rfl; ⟨_, fd, F, He.cls_ok (c.d.fact 45 (f := .cls "Reader") rfl), He.meth_ok (c.d.fact 36 (f := .meth "Reader" "finish") rfl)⟩
  f_read := let ⟨fd, F⟩ := c.d.def_ 37 (d := D_read) rfl; ⟨_, fd, F, He.glo_ok X G (c.d.fact 37 (f := .glo "read") rfl)⟩
  f_law_pen := let ⟨fd, F⟩ := c.d.def_ 38 (d := D_law_pen) rfl; ⟨_, fd, F, He.glo_ok X G (c.d.fact 38 (f := .glo "_law_pen") rfl)⟩
  f_law_next := let ⟨fd, F⟩ := c.d.def_ 39 (d := D_law_next) rfl; ⟨_, fd, F, He.glo_ok X G (c.d.fact 39 (f := .glo "_law_next") rfl)⟩
  f_law_draw := let ⟨fd, F⟩ := c.d.def_ 40 (d := D_law_draw) rfl; ⟨_, fd, F, He.glo_ok X G (c.d.fact 40 (f := .glo "_law_draw") rfl)⟩
  f_law_made := let ⟨fd, F⟩ := c.d.def_ 41 (d := D_law_made) rfl; ⟨_, fd, F, He.glo_ok X G (c.d.fact 41 (f := .glo "_law_made") rfl)⟩
  f_law_kinds := let ⟨fd, F⟩ := c.d.def_ 42 (d := D_law_kinds) rfl; ⟨_, fd, F, He.glo_ok X G (c.d.fact 42 (f := .glo "_law_kinds") rfl)⟩
  f_law := let ⟨fd, F⟩ := c.d.def_ 43 (d := D_law) rfl; ⟨_, fd, F, He.glo_ok X G (c.d.fact 43 (f := .glo "law") rfl)⟩
  cl_Reader := He.cls_ok (c.d.fact 45 (f := .cls "Reader") rfl)
  na_Reader_words := He.noat_ok (c.d.fact 46 (f := .noat "Reader" "words") rfl)
  na_Reader_place := He.noat_ok (c.d.fact 47 (f := .noat "Reader" "place") rfl)
  v_is_condition := He.glo_ok X G (c.d.fact 7 (f := .glo "is_condition") rfl)
  v_is_told := He.glo_ok X G (c.d.fact 5 (f := .glo "is_told") rfl)
  v_is_source := He.glo_ok X G (c.d.fact 6 (f := .glo "is_source") rfl)
  ex := excB_ok X G (fun c x h => by
    have e : nums.getD c "" = x := by
      have h2 : nums[c]? = some x := by
        rw [show nums = excN ++ nums.drop 22 from rfl, List.getElem?_append_left (List.getElem?_eq_some_iff.mp h).1]
        exact h
      rw [List.getD_eq_getElem?_getD, h2]
      rfl
    show He.ga K (nums.getD c "") = _
    rw [e]) (c.more 1 rfl)
  n_isinstance := He.free_ok X G (c.d.fact 48 (f := .free "isinstance") rfl)
  n_str := He.free_ok X G (c.d.fact 49 (f := .free "str") rfl)
  n_len := He.free_ok X G (c.d.fact 50 (f := .free "len") rfl)
  n_all := He.free_ok X G (c.d.fact 51 (f := .free "all") rfl)
  n_tuple := He.free_ok X G (c.d.fact 52 (f := .free "tuple") rfl)
  n_list := He.free_ok X G (c.d.fact 53 (f := .free "list") rfl)
  n_sorted := He.free_ok X G (c.d.fact 54 (f := .free "sorted") rfl)
  n_set := He.free_ok X G (c.d.fact 55 (f := .free "set") rfl)
  n_bool := He.free_ok X G (c.d.fact 56 (f := .free "bool") rfl)
  n_int := He.free_ok X G (c.d.fact 57 (f := .free "int") rfl)
  n_range := He.free_ok X G (c.d.fact 58 (f := .free "range") rfl)
  n_ValueError := He.free_ok X G (c.d.fact 59 (f := .free "ValueError") rfl)
  n_repr := He.free_ok X G (c.d.fact 60 (f := .free "repr") rfl)
  g_MOST_LETTERS := He.int_ok X G (c.d.fact 61 (f := .int "MOST_LETTERS" 8) rfl)
  g_LETTERS := He.str_ok X G (c.d.fact 62 (f := .str "LETTERS" "abcdefghijklmnopqrstuvwxyz") rfl)
  g_RESERVED := tupS_ok X G (c.d.fact 63 (f := .glo "RESERVED") rfl) (c.more 0 rfl)
  g_MOST_VALUES := He.int_ok X G (c.d.fact 64 (f := .int "MOST_VALUES" 8) rfl)
  g_DEPTH := He.int_ok X G (c.d.fact 65 (f := .int "DEPTH" 3) rfl)
  g_MOST_TOLD := He.int_ok X G (c.d.fact 66 (f := .int "MOST_TOLD" 8) rfl)
  g_MOST_SOURCES := He.int_ok X G (c.d.fact 67 (f := .int "MOST_SOURCES" 4) rfl)
  g_MOST_CONDITIONS := He.int_ok X G (c.d.fact 68 (f := .int "MOST_CONDITIONS" 8) rfl)
  g_DOUBT := He.str_ok X G (c.d.fact 69 (f := .str "DOUBT" "an object is no text of a statement") rfl)
end K25
open PySem PySem.W PySem.Calls PyProof.Rows
theorem PySem.Challenge.cw_boundonce_k25_errors_apart_holds : PySem.Challenge.rw_boundonce_k25_errors_apart.Holds := by
  w_on; o_law
  refine HandSHeadRun.head_any (r := OpenLaw.row PySem.Challenge.rw_boundonce_k25_errors_apart) (q := view (OpenLaw.row PySem.Challenge.rw_boundonce_k25_errors_apart).prog [62]) (H := K25.hk) (ob := K25.ob) (M := 8000) (loose := K25.loose) (d := HandSHeadRun.topDef (OpenLaw.row PySem.Challenge.rw_boundonce_k25_errors_apart).prog 62) (kwd := []) K25.ob_eq
    (by kernel_rfl) (fun s => by kernel_rfl) K25.run (by kernel_rfl) (by kernel_rfl) (by kernel_rfl) (by rfl) (by first | assumption | decide +kernel) (by decide +kernel) ⟨rfl, rfl, rfl, rfl, rfl, by decide +kernel⟩ ?hw ?hc
  case hw => w_witness2
  case hc =>
    refine Bo.walk_I (l := PySem.Challenge.rw_boundonce_k25_errors_apart) (n := 63) (k := 22) (x := "_law_script") (cl := K25.c_law) rfl (by decide) (by kernel_rfl) ⟨rfl, by decide, by decide⟩ ?F K25.law_ok
    intro w mg fa h Y G hmg0
    obtain ⟨K, KX, c⟩ := Y
    have hmg : mg ("law" : PySem.Str) = some (.ref fa) := hmg0
    have M := K25.facts KX G c
    obtain ⟨f, fd, F, hf⟩ := M.f_law
    have e := hmg.symm.trans hf
    cases e
    have b := L2.FunD.bindsA (ps := ["_law_script"]) F fun _ _ _ _ _ _ us hl => match us, hl with | [_], _ => rfl
    exact ⟨K25.gx K, fd, KX, fun s v => b s [v] rfl, fun base _ _ => K25.ok_law F M rfl⟩
