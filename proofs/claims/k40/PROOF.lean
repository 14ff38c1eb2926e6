import PyProof.Rows.All
import Wide.All
import OpenK.AllK
import Wide.FinOn
import HandS.ForMost
import HandS.Exc
import HandS.TryOnly
import HandS.TryMany
import HandS.ExcOwn
import HandS.WordsExc
import HandS.Evl
import HandS.CallSlots
import HandS.IsInst
import HandS.Defaults
import HandS.HeadHook1
import HandS.HeadHook2
import HandS.Wide
import HandS.WideMore
import HandS.WideBits
import HandS.Flow
import HandS.Style
import HandS.Property
import HandS.OwnEq
import HandS.More
import HandS.Conv
import HandS.ExcIs
import HandS.Head0
import HandS.Head1
import HandS.Head2
import HandS.HeadEnd
import HandS.Ends
import HandS.EndBits
import HandS.Deep
import HandS.Steps
import HandS.Star
import PyProof.RulesMatch
import HandS.TupLe
import PyProof.WalkInts
import HandS.FStr
import HandS.ExcValue
import PyProof.CollectIter
import KE.KUnpack
import HandS.ListEq
import PyProof.ReprLoop
import HandS.Dict
import HandS.SetFor
import HandS.RaiseMore
import PyProof.StrBlock2
import HandS.Zip
import HandS.StrMore
import HandS.ListItems
import HandS.Lambda
import PyProof.Rows.RegStrFacts
import HandS.FStrTup
import PyProof.Rows.StrRev
import PyProof.StrOps
import PySem.Challenge.RW_twocolourflips_k40_numbers_of_rows
set_option Elab.async false
set_option linter.all false
set_option maxRecDepth 100000
set_option maxHeartbeats 2000000
/-! DL0: data, what represents data in a heap, states, denotations. -/
namespace DL
open PySem PySem.Spec L2
open Evl (Ex)

/-- data: values without a heap -/
inductive D where
  | non | bl (b : Bool) | int (i : Int) | str (s : Str) | ty (n : String) | adr (a : Addr)
  | lst (xs : List D) | fix (xs : List D) | tup (xs : List D)
  | ins (C : String) (ns : List Str) (xs : List D)
  | dic (ks : List Key) (xs : List D)
  | dit (ks : List (List Key)) (xs : List D)
  | dif (ks : List Key) (xs : List D)
  deriving Inhabited
/-- a thing that may be changed, its contents data -/
inductive M where
  | lst (xs : List D)
  | ins (C : String) (ns : List Str) (xs : List D)
  | dic (ks : List Key) (xs : List D)
  | dit (ks : List (List Key)) (xs : List D)
  deriving Inhabited
def M.toD : M → D
  | .lst xs => .lst xs
  | .ins C ns xs => .ins C ns xs
  | .dic ks xs => .dic ks xs
  | .dit ks xs => .dit ks xs
inductive R where
  | val (d : D)
  | own (m : M)
  deriving Inhabited
abbrev Slots := List (Option R)
structure Xc where
  cls : String
  ns : List Str
  xs : List D
  deriving Inhabited
inductive ERes where
  | ok (r : R) (ρ : Slots)
  | exc (x : Xc) (ρ : Slots)
  | bad
  deriving Inhabited
inductive VRes where
  | ok (r : R)
  | exc (x : Xc)
  | bad
  deriving Inhabited
abbrev DEn := Slots → ERes

/-! ### representation -/
mutual
inductive Rep (K : PySem.W.Frag) (A : Hp) : V → D → Prop
  | non : Rep K A .non .non
  | bl (b : Bool) : Rep K A (.bl b) (.bl b)
  | int (i : Int) : Rep K A (.int i) (.int i)
  | str (s : Str) : Rep K A (.str s) (.str s)
  | ty (n : String) : Rep K A (.ty n) (.ty n)
  | adr (a : Addr) : Rep K A (.ref a) (.adr a)
  | lst {a : Addr} {xs : List V} {ds : List D} : A a = some (.lst xs) → RepL K A xs ds → Rep K A (.ref a) (.lst ds)
  | fix {a : Addr} {xs : List V} {ds : List D} : SqL K A a xs → RepL K A xs ds → Rep K A (.ref a) (.fix ds)
  | tup {a : Addr} {xs : List V} {ds : List D} : SqT K A a xs → RepL K A xs ds → Rep K A (.ref a) (.tup ds)
  | ins {a dx : Addr} {C : String} {fs : List (Str × V)} {ns : List Str} {ds : List D} : A a = some (.ins (He.ga K (Str.ofString C)) dx fs) → fs.map (·.1) = ns → RepL K A (fs.map (·.2)) ds → Rep K A (.ref a) (.ins C ns ds)
  | dic {a : Addr} {kvs : List (Key × V)} {ks : List Key} {ds : List D} : A a = some (.dK kvs) → kvs.map (·.1) = ks → RepL K A (kvs.map (·.2)) ds → Rep K A (.ref a) (.dic ks ds)
  | dit {a : Addr} {kvs : List (List Key × V)} {ks : List (List Key)} {ds : List D} : A a = some (.dT kvs) → kvs.map (·.1) = ks → RepL K A (kvs.map (·.2)) ds → Rep K A (.ref a) (.dit ks ds)
  | dif {a : Addr} {o : Obj} {kvs : List (Key × V)} {ks : List Key} {ds : List D} : A a = some (.frz o (.dK kvs)) → kvs.map (·.1) = ks → RepL K A (kvs.map (·.2)) ds → Rep K A (.ref a) (.dif ks ds)
inductive RepL (K : PySem.W.Frag) (A : Hp) : List V → List D → Prop
  | nil : RepL K A [] []
  | cons {v : V} {d : D} {vs : List V} {ds : List D} : Rep K A v d → RepL K A vs ds → RepL K A (v :: vs) (d :: ds)
end
mutual
theorem Rep.mono {K : PySem.W.Frag} {A A' : Hp} (e : Ex A A') : ∀ (d : D) (v : V), Rep K A v d → Rep K A' v d
  | .non, _, h => by cases h; exact .non
  | .bl _, _, h => by cases h; exact .bl _
  | .int _, _, h => by cases h; exact .int _
  | .str _, _, h => by cases h; exact .str _
  | .ty _, _, h => by cases h; exact .ty _
  | .adr _, _, h => by cases h; exact .adr _
  | .lst ds, _, h => by cases h with | lst h r => exact .lst (e _ _ h) (RepL.mono e ds _ r)
  | .fix ds, _, h => by cases h with | fix h r => exact .fix (Evl.ex_l e h) (RepL.mono e ds _ r)
  | .tup ds, _, h => by cases h with | tup h r => exact .tup (Evl.ex_t e h) (RepL.mono e ds _ r)
  | .ins _ _ ds, _, h => by cases h with | ins h n r => exact .ins (e _ _ h) n (RepL.mono e ds _ r)
  | .dic _ ds, _, h => by cases h with | dic h n r => exact .dic (e _ _ h) n (RepL.mono e ds _ r)
  | .dit _ ds, _, h => by cases h with | dit h n r => exact .dit (e _ _ h) n (RepL.mono e ds _ r)
  | .dif _ ds, _, h => by cases h with | dif h n r => exact .dif (e _ _ h) n (RepL.mono e ds _ r)
theorem RepL.mono {K : PySem.W.Frag} {A A' : Hp} (e : Ex A A') : ∀ (ds : List D) (vs : List V), RepL K A vs ds → RepL K A' vs ds
  | [], _, h => by cases h; exact .nil
  | d :: ds, _, h => by cases h with | cons h r => exact .cons (Rep.mono e d _ h) (RepL.mono e ds _ r)
end
theorem Rep.mn {K : PySem.W.Frag} {A A' : Hp} {v : V} {d : D} (h : Rep K A v d) (e : Ex A A') : Rep K A' v d := Rep.mono e d v h
theorem RepL.mn {K : PySem.W.Frag} {A A' : Hp} {vs : List V} {ds : List D} (h : RepL K A vs ds) (e : Ex A A') : RepL K A' vs ds := RepL.mono e ds vs h
section
variable {K : PySem.W.Frag} {A : Hp}
theorem RepL.length : ∀ {vs : List V} {ds : List D}, RepL K A vs ds → vs.length = ds.length
  | _, _, .nil => rfl
  | _, _, .cons _ r => congrArg Nat.succ r.length
theorem RepL.get : ∀ {vs : List V} {ds : List D} {i : Nat} {d : D}, RepL K A vs ds → ds[i]? = some d → ∃ v, vs[i]? = some v ∧ Rep K A v d
  | _, _, _, _, .nil, e => by simp at e
  | _, _, 0, _, .cons h _, e => by simp at e; subst e; exact ⟨_, rfl, h⟩
  | _, _, i + 1, _, .cons _ r, e => by
    obtain ⟨v, h1, h2⟩ := r.get (i := i) (by simpa using e)
    exact ⟨v, by simpa using h1, h2⟩
theorem RepL.getV : ∀ {vs : List V} {ds : List D} {i : Nat} {v : V}, RepL K A vs ds → vs[i]? = some v → ∃ d, ds[i]? = some d ∧ Rep K A v d
  | _, _, _, _, .nil, e => by simp at e
  | _, _, 0, _, .cons h _, e => by simp at e; subst e; exact ⟨_, rfl, h⟩
  | _, _, i + 1, _, .cons _ r, e => by
    obtain ⟨v, h1, h2⟩ := r.getV (i := i) (by simpa using e)
    exact ⟨v, by simpa using h1, h2⟩
theorem RepL.append : ∀ {vs vs' : List V} {ds ds' : List D}, RepL K A vs ds → RepL K A vs' ds' → RepL K A (vs ++ vs') (ds ++ ds')
  | _, _, _, _, .nil, s => s
  | _, _, _, _, .cons h r, s => .cons h (r.append s)
theorem RepL.one {v : V} {d : D} (h : Rep K A v d) : RepL K A [v] [d] := .cons h .nil
theorem RepL.take : ∀ {vs : List V} {ds : List D} (n : Nat), RepL K A vs ds → RepL K A (vs.take n) (ds.take n)
  | _, _, 0, _ => .nil
  | _, _, _ + 1, .nil => .nil
  | _, _, n + 1, .cons h r => .cons h (r.take n)
theorem RepL.drop : ∀ {vs : List V} {ds : List D} (n : Nat), RepL K A vs ds → RepL K A (vs.drop n) (ds.drop n)
  | _, _, 0, r => r
  | _, _, _ + 1, .nil => .nil
  | _, _, n + 1, .cons _ r => r.drop n
theorem RepL.reverse : ∀ {vs : List V} {ds : List D}, RepL K A vs ds → RepL K A vs.reverse ds.reverse
  | _, _, .nil => .nil
  | _, _, .cons h r => by rw [List.reverse_cons, List.reverse_cons]; exact r.reverse.append (.one h)
theorem RepL.ints : ∀ (ns : List Int), RepL K A (ns.map V.int) (ns.map D.int)
  | [] => .nil
  | n :: ns => .cons (.int n) (RepL.ints ns)
theorem RepL.set : ∀ {vs : List V} {ds : List D} (i : Nat) {v : V} {d : D}, RepL K A vs ds → Rep K A v d → RepL K A (vs.set i v) (ds.set i d)
  | _, _, _, _, _, .nil, _ => .nil
  | _, _, 0, _, _, .cons _ r, h => .cons h r
  | _, _, i + 1, _, _, .cons g r, h => .cons g (r.set i h)
theorem RepL.of_ints : ∀ {vs : List V} {ns : List Int}, RepL K A vs (ns.map D.int) → vs = ns.map V.int
  | _, [], .nil => rfl
  | _, n :: ns, .cons h r => by
    cases h
    rw [RepL.of_ints r] <;> rfl
end

inductive RepM (K : PySem.W.Frag) (A : Hp) : HO → M → Prop
  | lst {xs : List V} {ds : List D} : RepL K A xs ds → RepM K A (.lst xs) (.lst ds)
  | ins {dx : Addr} {C : String} {fs : List (Str × V)} {ns : List Str} {ds : List D} : fs.map (·.1) = ns → RepL K A (fs.map (·.2)) ds → RepM K A (.ins (He.ga K (Str.ofString C)) dx fs) (.ins C ns ds)
  | dic {kvs : List (Key × V)} {ks : List Key} {ds : List D} : kvs.map (·.1) = ks → RepL K A (kvs.map (·.2)) ds → RepM K A (.dK kvs) (.dic ks ds)
  | dit {kvs : List (List Key × V)} {ks : List (List Key)} {ds : List D} : kvs.map (·.1) = ks → RepL K A (kvs.map (·.2)) ds → RepM K A (.dT kvs) (.dit ks ds)
theorem RepM.mn {K : PySem.W.Frag} {A A' : Hp} {o : HO} {m : M} (h : RepM K A o m) (e : Ex A A') : RepM K A' o m := by
  cases h with
  | lst r => exact .lst (r.mn e)
  | ins n r => exact .ins n (r.mn e)
  | dic n r => exact .dic n (r.mn e)
  | dit n r => exact .dit n (r.mn e)
theorem RepM.rep {K : PySem.W.Frag} {A : Hp} {o : HO} {m : M} {a : Addr} (h : RepM K A o m) (e : A a = some o) : Rep K A (.ref a) m.toD := by
  cases h with
  | lst r => exact .lst e r
  | ins n r => exact .ins e n r
  | dic n r => exact .dic e n r
  | dit n r => exact .dit e n r
theorem RepM.freeze {K : PySem.W.Frag} {A : Hp} {o : HO} {m : M} {a : Addr} (h : RepM K A o m) (e : A a = none) : Rep K (upd A a o) (.ref a) m.toD :=
  (h.mn (Ex.new e)).rep upd_same

/-! ### states -/
structure Sat (K : PySem.W.Frag) (Fo A H : Hp) (σ : St) (ρ : Slots) : Prop where
  ex : Ex A H
  fo : ∀ b o, Fo b = some o → H b = some o ∧ A b = none
  len : σ.length = ρ.length
  val : ∀ (i : Nat) (d : D), ρ[i]? = some (some (R.val d)) → ∃ v : V, σ[i]? = some (some v) ∧ Rep K A v d
  own : ∀ (i : Nat) (m : M), ρ[i]? = some (some (R.own m)) → ∃ (a : Addr) (o : HO), σ[i]? = some (some (V.ref a)) ∧ A a = none ∧ Fo a = none ∧ H a = some o ∧ RepM K A o m
  inj : ∀ (i j : Nat) (m m' : M) (a : Addr), ρ[i]? = some (some (R.own m)) → ρ[j]? = some (some (R.own m')) → σ[i]? = some (some (V.ref a)) → σ[j]? = some (some (V.ref a)) → i = j
/-- b is none of the slots' own things -/
def Apart (σ : St) (ρ : Slots) (b : Addr) : Prop := ∀ (i : Nat) (m : M), ρ[i]? = some (some (R.own m)) → σ[i]? ≠ some (some (V.ref b))
inductive RepR (K : PySem.W.Frag) (Fo A H : Hp) (σ : St) (ρ : Slots) : V → R → Prop
  | val {v : V} {d : D} : Rep K A v d → RepR K Fo A H σ ρ v (.val d)
  | own {a : Addr} {o : HO} {m : M} : A a = none → Fo a = none → H a = some o → RepM K A o m → Apart σ ρ a → RepR K Fo A H σ ρ (.ref a) (.own m)
/-- an exception: its class, its own dict -/
def RepX (K : PySem.W.Frag) (A : Hp) (cls : Value) (d : Option Addr) (x : Xc) : Prop :=
  cls = .ref (He.ga K (Str.ofString x.cls)) ∧ (x.ns = [] → d = none) ∧ (x.ns ≠ [] → ∃ da fs, d = some da ∧ A da = some (.xd fs) ∧ fs.map (·.1) = x.ns ∧ RepL K A (fs.map (·.2)) x.xs)
section
variable {K : PySem.W.Frag} {Fo A A' H H' : Hp} {σ : St} {ρ : Slots} {v : V} {r : R} {a p : Addr} {o o' : HO}
theorem Sat.freeA (S : Sat K Fo A H σ ρ) (h : H p = none) : A p = none := Evl.fresh_back S.ex h
theorem Sat.freeF (S : Sat K Fo A H σ ρ) (h : H p = none) : Fo p = none := by
  cases e : Fo p with
  | none => rfl
  | some o => rw [(S.fo p o e).1] at h; cases h
theorem Sat.apart (S : Sat K Fo A H σ ρ) (h : H p = none) : Apart σ ρ p := fun i m e q => by
  obtain ⟨a, o, e1, _, _, e2, _⟩ := S.own i m e
  rw [e1] at q; cases q
  rw [e2] at h; cases h
/-- a new thing, not in the anchor -/
theorem Sat.fresh (S : Sat K Fo A H σ ρ) (h : H p = none) : Sat K Fo A (upd H p o) σ ρ where
  ex := S.ex.trans (Ex.new h)
  fo := fun b u e => ⟨Ex.new h _ _ (S.fo b u e).1, (S.fo b u e).2⟩
  len := S.len
  val := S.val
  own := fun i m e => let ⟨a, u, e1, e2, e3, e4, e5⟩ := S.own i m e; ⟨a, u, e1, e2, e3, Ex.new h _ _ e4, e5⟩
  inj := S.inj
theorem ex_upd (e : Ex A H) (ha : A a = none) (hh : H a = some o) : Ex (upd A a o) H := fun b u q => by
  by_cases hb : b = a
  · subst hb; rw [upd_same] at q; cases q; exact hh
  · rw [upd_ne hb] at q; exact e b u q
/-- a temporary own thing goes into the anchor -/
theorem Sat.anchor (S : Sat K Fo A H σ ρ) (ha : A a = none) (hf : Fo a = none) (hh : H a = some o) (hp : Apart σ ρ a) : Sat K Fo (upd A a o) H σ ρ where
  ex := ex_upd S.ex ha hh
  fo := fun b u e => ⟨(S.fo b u e).1, by
    have nb : b ≠ a := fun z => by subst z; rw [hf] at e; cases e
    rw [upd_ne nb]; exact (S.fo b u e).2⟩
  len := S.len
  val := fun i d e => let ⟨v, e1, e2⟩ := S.val i d e; ⟨v, e1, e2.mn (Ex.new ha)⟩
  own := fun i m e => by
    obtain ⟨b, u, e1, e2, e3, e4, e5⟩ := S.own i m e
    have nb : b ≠ a := fun z => by subst z; exact hp i m e e1
    exact ⟨b, u, e1, by rw [upd_ne nb]; exact e2, e3, e4, e5.mn (Ex.new ha)⟩
  inj := S.inj
/-- a new thing, straight into the anchor -/
theorem Sat.new (S : Sat K Fo A H σ ρ) (h : H p = none) : Sat K Fo (upd A p o) (upd H p o) σ ρ :=
  (S.fresh (o := o) h).anchor (S.freeA h) (S.freeF h) upd_same (S.apart h)
theorem Sat.newOwn (S : Sat K Fo A H σ ρ) {m : M} (h : H p = none) (r : RepM K A o m) : RepR K Fo A (upd H p o) σ ρ (.ref p) (.own m) :=
  .own (S.freeA h) (S.freeF h) upd_same r (S.apart h)
end

/-! ### denotations -/
def ERes.asVal : ERes → ERes
  | .ok (.own m) ρ => .ok (.val m.toD) ρ
  | r => r
def Post (K : PySem.W.Frag) (W : WX) (Fo A : Hp) (σ : St) (res : ERes) (Q : VK) : Prop := match res with
  | .ok r ρ' => ∀ v A' H', Ex A A' → Sat K Fo A' H' σ ρ' → RepR K Fo A' H' σ ρ' v r → Q v H'
  | .exc x ρ' => ∀ cls dct A' H', Ex A A' → Sat K Fo A' H' σ ρ' → RepX K A' cls dct x → W cls dct σ H'
  | .bad => False
def rd (K : PySem.W.Frag) (W : WX) (d : DEn) : TE := fun σ H Q => ∃ Fo A ρ, Sat K Fo A H σ ρ ∧ Post K W Fo A σ (d ρ) Q
def DE (X : Cx) (W : WX) (e : Expr) (d : DEn) : Prop := PE X e (rd X.K W d)
theorem PE.weak {X : Cx} {e : Expr} {t u : TE} (h : PE X e t) (w : ∀ σ H Q, u σ H Q → t σ H Q) : PE X e u := ⟨fun pins s σ H Q I q => h.run pins s σ H Q I (w _ _ _ q)⟩
section
variable {K : PySem.W.Frag} {W : WX} {Fo A A' : Hp} {σ : St} {res : ERes} {Q : VK}
theorem Post.imp {Q' : VK} (h : Post K W Fo A σ res Q) (k : ∀ v H, Q v H → Q' v H) : Post K W Fo A σ res Q' := by
  cases res with
  | ok r ρ => exact fun v A' H' e S r => k _ _ (h v A' H' e S r)
  | exc x ρ => exact h
  | bad => exact h
theorem Post.ext (h : Post K W Fo A σ res Q) (e : Ex A A') : Post K W Fo A' σ res Q := by
  cases res with
  | ok r ρ => exact fun v A2 H' e2 S r => h v A2 H' (e.trans e2) S r
  | exc x ρ => exact fun c d A2 H' e2 S r => h c d A2 H' (e.trans e2) S r
  | bad => exact h
/-- a temporary thing may be taken as data -/
theorem Post.asVal (h : Post K W Fo A σ res.asVal Q) : Post K W Fo A σ res Q := by
  cases res with
  | ok r ρ =>
    cases r with
    | val d => exact h
    | own m =>
      intro v A' H' e S r
      cases r with
      | own h1 h2 h3 h4 h5 => exact h _ _ _ (e.trans (Ex.new h1)) (S.anchor h1 h2 h3 h5) (.val (h4.freeze h1))
  | exc x ρ => exact h
  | bad => exact h
end
/-- one step behind another -/
def ERes.bind (r : ERes) (k : D → DEn) : ERes := match r with
  | .ok (.val d) ρ => k d ρ
  | .ok (.own m) ρ => k m.toD ρ
  | .exc x ρ => .exc x ρ
  | .bad => .bad
theorem post_bind {K : PySem.W.Frag} {W : WX} {Fo A : Hp} {σ : St} {res : ERes} {k : D → DEn} {Q Q' : VK} (h : Post K W Fo A σ (res.bind k) Q)
    (q : ∀ v d A' H' ρ', Ex A A' → Sat K Fo A' H' σ ρ' → Rep K A' v d → Post K W Fo A' σ (k d ρ') Q → Q' v H') : Post K W Fo A σ res Q' := by
  refine Post.asVal ?_
  cases res with
  | ok r ρ =>
    cases r with
    | val d =>
      intro v A' H' e S r
      cases r with
      | val r => exact q v d A' H' ρ e S r (Post.ext h e)
    | own m =>
      intro v A' H' e S r
      cases r with
      | val r => exact q v m.toD A' H' ρ e S r (Post.ext h e)
  | exc x ρ => exact h
  | bad => exact h
def VRes.at (r : VRes) (ρ : Slots) : ERes := match r with
  | .ok r => .ok r ρ
  | .exc x => .exc x ρ
  | .bad => .bad
end DL

set_option maxRecDepth 100000
set_option maxHeartbeats 2000000
/-! DL1: arguments, calls by values. -/
namespace DL
open PySem PySem.Spec L2
open Evl (Ex)

def R.toD : R → D
  | .val d => d
  | .own m => m.toD
inductive AV where
  | d (d : D)
  | l (i : Nat)
  deriving Inhabited
inductive ARes where
  | ok (as : List AV) (ρ : Slots)
  | exc (x : Xc) (ρ : Slots)
  | bad
  deriving Inhabited
inductive Arg where
  | e (d : DEn)
  | l (i : Nat)
def ARes.cons (a : AV) : ARes → ARes
  | .ok as ρ => .ok (a :: as) ρ
  | r => r
def runArgs : List Arg → Slots → ARes
  | [], ρ => .ok [] ρ
  | .e d :: r, ρ => match d ρ with
    | .ok v ρ1 => (runArgs r ρ1).cons (.d v.toD)
    | .exc x ρ1 => .exc x ρ1
    | .bad => .bad
  | .l i :: r, ρ => match ρ[i]? with
    | some (some (.own _)) => (runArgs r ρ).cons (.l i)
    | _ => .bad
inductive RepAs (K : PySem.W.Frag) (A : Hp) (σ : L2.St) : List V → List AV → Prop
  | nil : RepAs K A σ [] []
  | d {v : V} {d : D} {vs : List V} {as : List AV} : Rep K A v d → RepAs K A σ vs as → RepAs K A σ (v :: vs) (.d d :: as)
  | l {v : V} {i : Nat} {vs : List V} {as : List AV} : σ[i]? = some (some v) → RepAs K A σ vs as → RepAs K A σ (v :: vs) (.l i :: as)
def PostA (K : PySem.W.Frag) (W : WX) (Fo A : Hp) (σ : L2.St) (res : ARes) (Q : List V → Hp → Prop) : Prop := match res with
  | .ok as ρ' => ∀ vs A' H', Ex A A' → Sat K Fo A' H' σ ρ' → RepAs K A' σ vs as → Q vs H'
  | .exc x ρ' => ∀ cls dct A' H', Ex A A' → Sat K Fo A' H' σ ρ' → RepX K A' cls dct x → W cls dct σ H'
  | .bad => False
def rdA (K : PySem.W.Frag) (W : WX) (args : List Arg) : TA := fun σ H Q => ∃ Fo A ρ, Sat K Fo A H σ ρ ∧ PostA K W Fo A σ (runArgs args ρ) Q
def DA (X : Cx) (W : WX) (es : List Expr) (args : List Arg) : Prop := PA X es (rdA X.K W args)
theorem PA.weak {X : Cx} {es : List Expr} {t u : TA} (h : PA X es t) (w : ∀ σ H Q, u σ H Q → t σ H Q) : PA X es u := ⟨fun pos pins s σ H Q I q => h.run pos pins s σ H Q I (w _ _ _ q)⟩
section
variable {K : PySem.W.Frag} {W : WX} {Fo A A' H : Hp} {σ : L2.St} {ρ : Slots}
theorem PostA.ext {res : ARes} {Q : List V → Hp → Prop} (h : PostA K W Fo A σ res Q) (e : Ex A A') : PostA K W Fo A' σ res Q := by
  cases res with
  | ok r ρ => exact fun v A2 H' e2 S r => h v A2 H' (e.trans e2) S r
  | exc x ρ => exact fun c d A2 H' e2 S r => h c d A2 H' (e.trans e2) S r
  | bad => exact h
theorem Post.toVal {res : ERes} {Q : VK} (h : Post K W Fo A σ (match res with | .ok r ρ => .ok (.val r.toD) ρ | r => r) Q) : Post K W Fo A σ res Q := by
  refine Post.asVal ?_
  cases res with
  | ok r ρ => cases r <;> exact h
  | exc x ρ => exact h
  | bad => exact h
end
section
variable {X : Cx} {W : WX}
theorem da_nil : DA X W [] [] := PA.weak pa_nil fun σ H Q ⟨Fo, A, ρ, S, p⟩ => p [] A H (Evl.Ex.refl A) S .nil
theorem da_cons {e : Expr} {es : List Expr} {d : DEn} {as : List Arg} (h : DE X W e d) (hs : DA X W es as) (he : starEach (e :: es) X.env = (false, eval e X.env) :: starEach es X.env := by rfl) : DA X W (e :: es) (.e d :: as) := by
  refine PA.weak (pa_cons h hs he) fun σ H Q ⟨Fo, A, ρ, S, p⟩ => ⟨Fo, A, ρ, S, ?_⟩
  replace p : PostA X.K W Fo A σ (match d ρ with
    | .ok v ρ1 => (runArgs as ρ1).cons (.d v.toD)
    | .exc x ρ1 => .exc x ρ1
    | .bad => .bad) Q := p
  refine Post.toVal ?_
  cases hd : d ρ with
  | bad => rw [hd] at p; exact p
  | exc x ρ1 => rw [hd] at p; exact p
  | ok r ρ1 =>
    rw [hd] at p
    replace p : PostA X.K W Fo A σ ((runArgs as ρ1).cons (.d r.toD)) Q := p
    show ∀ v A' H', _
    intro v A' H' e S' rv
    cases rv with
    | val rv =>
      refine ⟨Fo, A', ρ1, S', ?_⟩
      cases ha : runArgs as ρ1 with
      | bad => rw [ha] at p; exact p
      | exc x ρ2 => rw [ha] at p; exact fun c dc A2 H2 e2 S2 r2 => p c dc A2 H2 (e.trans e2) S2 r2
      | ok av ρ2 => rw [ha] at p; exact fun vs A2 H2 e2 S2 r2 => p (v :: vs) A2 H2 (e.trans e2) S2 (.d (rv.mn e2) r2)
theorem da_lend {x : Str} {es : List Expr} {as : List Arg} {pos : Pos} (i : Nat) (h : PE X (.Name x pos) (tVar i)) (hs : DA X W es as) (he : starEach (.Name x pos :: es) X.env = (false, eval (.Name x pos) X.env) :: starEach es X.env := by rfl) : DA X W (.Name x pos :: es) (.l i :: as) := by
  refine PA.weak (pa_cons h hs he) fun σ H Q ⟨Fo, A, ρ, S, p⟩ => ?_
  replace p : PostA X.K W Fo A σ (match ρ[i]? with
    | some (some (.own _)) => (runArgs as ρ).cons (.l i)
    | _ => .bad) Q := p
  cases hi : ρ[i]? with
  | none => rw [hi] at p; exact p.elim
  | some o =>
    cases o with
    | none => rw [hi] at p; exact p.elim
    | some r =>
      cases r with
      | val d => rw [hi] at p; exact p.elim
      | own m =>
        rw [hi] at p
        replace p : PostA X.K W Fo A σ ((runArgs as ρ).cons (.l i)) Q := p
        obtain ⟨a, o, e1, _⟩ := S.own i m hi
        refine ⟨.ref a, e1, Fo, A, ρ, S, ?_⟩
        cases ha : runArgs as ρ with
        | bad => rw [ha] at p; exact p
        | exc x ρ2 => rw [ha] at p; exact p
        | ok av ρ2 => rw [ha] at p; exact fun vs A2 H2 e2 S2 r2 => p (.ref a :: vs) A2 H2 e2 S2 (.l e1 r2)
end

/-! ### the state at a callee's entry -/
def argR (ρ : Slots) : AV → Option R
  | .d d => some (.val d)
  | .l i => match ρ[i]? with
    | some (some (.own m)) => some (.own m)
    | _ => none
def put : List AV → Slots → Slots → Slots
  | .l i :: as, r :: rs, ρ => put as rs (ρ.set i r)
  | .d _ :: as, _ :: rs, ρ => put as rs ρ
  | _, _, ρ => ρ
def lends : List AV → List Nat
  | [] => []
  | .l i :: as => i :: lends as
  | .d _ :: as => lends as
def callAt (c : DEn) (as : List AV) (ρ : Slots) : ERes :=
  if (lends as).Nodup ∧ as.all (fun a => (argR ρ a).isSome) = true then
    match c (as.map (argR ρ)) with
    | .ok r rs => .ok r (put as rs ρ)
    | .exc x rs => .exc x (put as rs ρ)
    | .bad => .bad
  else .bad
def dCall (c : DEn) (args : List Arg) : DEn := fun ρ => match runArgs args ρ with
  | .ok as ρ1 => callAt c as ρ1
  | .exc x ρ1 => .exc x ρ1
  | .bad => .bad

theorem mem_lends {i : Nat} : ∀ {as : List AV} {k : Nat}, as[k]? = some (.l i) → i ∈ lends as
  | [], k, h => by simp at h
  | .l j :: as, 0, h => by simp at h; subst h; exact List.mem_cons_self
  | .d _ :: as, 0, h => by simp at h
  | .l j :: as, k + 1, h => List.mem_cons_of_mem _ (mem_lends (as := as) (k := k) (by simpa using h))
  | .d _ :: as, k + 1, h => mem_lends (as := as) (k := k) (by simpa using h)
theorem lends_inj {i : Nat} : ∀ {as : List AV} {j k : Nat}, (lends as).Nodup → as[j]? = some (.l i) → as[k]? = some (.l i) → j = k
  | [], j, k, _, h, _ => by simp at h
  | .l n :: as, 0, 0, _, _, _ => rfl
  | .d _ :: as, 0, 0, _, _, _ => rfl
  | .d _ :: as, 0, k + 1, _, h, _ => by simp at h
  | .d _ :: as, j + 1, 0, _, _, h => by simp at h
  | .d _ :: as, j + 1, k + 1, nd, h, h' => congrArg Nat.succ (lends_inj (as := as) nd (by simpa using h) (by simpa using h'))
  | .l n :: as, 0, k + 1, nd, h, h' => by
    simp at h; subst h
    exact absurd (mem_lends (as := as) (k := k) (by simpa using h')) (List.nodup_cons.mp nd).1
  | .l n :: as, j + 1, 0, nd, h, h' => by
    simp at h'; subst h'
    exact absurd (mem_lends (as := as) (k := j) (by simpa using h)) (List.nodup_cons.mp nd).1
  | .l n :: as, j + 1, k + 1, nd, h, h' => congrArg Nat.succ (lends_inj (as := as) (List.nodup_cons.mp nd).2 (by simpa using h) (by simpa using h'))
theorem put_len : ∀ (as : List AV) (rs ρ : Slots), (put as rs ρ).length = ρ.length
  | .l i :: as, r :: rs, ρ => by show (put as rs (ρ.set i r)).length = _; rw [put_len as rs]; simp
  | .d _ :: as, _ :: rs, ρ => put_len as rs ρ
  | [], _, _ => rfl
  | .l _ :: _, [], _ => rfl
  | .d _ :: _, [], _ => rfl
theorem put_get {r : Option R} {j : Nat} : ∀ (as : List AV) (rs ρ : Slots), as.length = rs.length → (put as rs ρ)[j]? = some r → (ρ[j]? = some r ∧ ∀ k : Nat, as[k]? ≠ some (AV.l j)) ∨ ∃ k : Nat, as[k]? = some (AV.l j) ∧ rs[k]? = some r
  | [], [], ρ, _, h => .inl ⟨h, fun k => by simp⟩
  | .l i :: as, q :: rs, ρ, hl, h => by
    rcases put_get as rs (ρ.set i q) (by simpa using hl) h with ⟨h1, h2⟩ | ⟨k, h1, h2⟩
    · by_cases hj : j = i
      · subst hj
        refine .inr ⟨0, rfl, ?_⟩
        rw [List.getElem?_set] at h1
        simp at h1
        simp [h1.2]
      · rw [List.getElem?_set_ne (Ne.symm hj)] at h1
        refine .inl ⟨h1, fun k => ?_⟩
        cases k with
        | zero => simp; exact fun z => hj z.symm
        | succ k => simpa using h2 k
    · exact .inr ⟨k + 1, by simpa using h1, by simpa using h2⟩
  | .d _ :: as, q :: rs, ρ, hl, h => by
    rcases put_get as rs ρ (by simpa using hl) h with ⟨h1, h2⟩ | ⟨k, h1, h2⟩
    · refine .inl ⟨h1, fun k => ?_⟩
      cases k with
      | zero => simp
      | succ k => simpa using h2 k
    · exact .inr ⟨k + 1, by simpa using h1, by simpa using h2⟩
  | [], _ :: _, _, hl, _ => by simp at hl
  | _ :: _, [], _, hl, _ => by simp at hl
section
variable {K : PySem.W.Frag} {W : WX} {Fo A A' H H' : Hp} {σ : L2.St} {ρ rs : Slots} {vs : List V} {as : List AV}
theorem RepAs.length : ∀ {vs : List V} {as : List AV}, RepAs K A σ vs as → vs.length = as.length
  | _, _, .nil => rfl
  | _, _, .d _ r => congrArg Nat.succ r.length
  | _, _, .l _ r => congrArg Nat.succ r.length
theorem RepAs.atL : ∀ {vs : List V} {as : List AV} {k i : Nat}, RepAs K A σ vs as → as[k]? = some (.l i) → ∃ v, vs[k]? = some v ∧ σ[i]? = some (some v)
  | _, _, _, _, .nil, h => by simp at h
  | _, _, 0, _, .d _ _, h => by simp at h
  | _, _, 0, _, .l e _, h => by simp at h; subst h; exact ⟨_, rfl, e⟩
  | _, _, k + 1, _, .d _ r, h => r.atL (k := k) (by simpa using h)
  | _, _, k + 1, _, .l _ r, h => r.atL (k := k) (by simpa using h)
theorem RepAs.atD : ∀ {vs : List V} {as : List AV} {k : Nat} {d : D}, RepAs K A σ vs as → as[k]? = some (.d d) → ∃ v, vs[k]? = some v ∧ Rep K A v d
  | _, _, _, _, .nil, h => by simp at h
  | _, _, 0, _, .l _ _, h => by simp at h
  | _, _, 0, _, .d e _, h => by simp at h; subst h; exact ⟨_, rfl, e⟩
  | _, _, k + 1, _, .d _ r, h => r.atD (k := k) (by simpa using h)
  | _, _, k + 1, _, .l _ r, h => r.atD (k := k) (by simpa using h)
/-- b is lent -/
def Lent (vs : List V) (as : List AV) (b : Addr) : Prop := ∃ k i : Nat, as[k]? = some (AV.l i) ∧ vs[k]? = some (V.ref b)
open Classical in
/-- what a callee must leave alone -/
noncomputable def foC (A H : Hp) (vs : List V) (as : List AV) : Hp := fun b => if A b = none ∧ ¬ Lent vs as b then H b else none
theorem foC_some {b : Addr} {o : HO} (h : foC A H vs as b = some o) : A b = none ∧ ¬ Lent vs as b ∧ H b = some o := by
  unfold foC at h
  split at h
  · rename_i q; exact ⟨q.1, q.2, h⟩
  · cases h
theorem foC_of {b : Addr} {o : HO} (h1 : A b = none) (h2 : ¬ Lent vs as b) (h3 : H b = some o) : foC A H vs as b = some o := by
  unfold foC
  rw [if_pos ⟨h1, h2⟩]; exact h3
theorem foC_lent {b : Addr} (h : Lent vs as b) : foC A H vs as b = none := by
  unfold foC
  rw [if_neg fun q => q.2 h]
theorem getL {α β : Type} {f : α → β} {l : List α} {k : Nat} {y : β} (h : (l.map f)[k]? = some y) : ∃ x, l[k]? = some x ∧ f x = y := by
  rw [List.getElem?_map] at h
  cases e : l[k]? with
  | none => rw [e] at h; cases h
  | some x => rw [e] at h; exact ⟨x, rfl, Option.some.inj h⟩
theorem mapS {vs : List V} {k : Nat} {v : V} (h : vs[k]? = some v) : (vs.map some)[k]? = some (some v) := by rw [List.getElem?_map, h]; rfl
theorem mapS' {vs : List V} {k : Nat} {v : V} (h : (vs.map some)[k]? = some (some v)) : vs[k]? = some v := by
  obtain ⟨x, h1, h2⟩ := getL h
  cases h2; exact h1
theorem argR_own {a : AV} {m : M} (h : argR ρ a = some (.own m)) : ∃ i, a = .l i ∧ ρ[i]? = some (some (.own m)) := by
  cases a with
  | d d => cases h
  | l i =>
    refine ⟨i, rfl, ?_⟩
    unfold argR at h
    dsimp only at h
    cases e : ρ[i]? with
    | none => rw [e] at h; cases h
    | some o =>
      rw [e] at h
      cases o with
      | none => cases h
      | some r =>
        cases r with
        | val d => cases h
        | own m' => cases h; rfl
theorem argR_val {a : AV} {d : D} (h : argR ρ a = some (.val d)) : a = .d d := by
  cases a with
  | d d => cases h; rfl
  | l i =>
    unfold argR at h
    dsimp only at h
    cases e : ρ[i]? with
    | none => rw [e] at h; cases h
    | some o =>
      rw [e] at h
      cases o with
      | none => cases h
      | some r =>
        cases r with
        | val d => cases h
        | own m' => cases h
theorem Sat.entry (S : Sat K Fo A H σ ρ) (ra : RepAs K A σ vs as) (nd : (lends as).Nodup) : Sat K (foC A H vs as) A H (vs.map some) (as.map (argR ρ)) where
  ex := S.ex
  fo := fun b o e => let ⟨h1, _, h3⟩ := foC_some e; ⟨h3, h1⟩
  len := by rw [List.length_map, List.length_map]; exact ra.length
  val := fun k d e => by
    obtain ⟨a, e1, e2⟩ := getL e
    have := argR_val e2
    subst this
    obtain ⟨v, e3, e4⟩ := ra.atD e1
    exact ⟨v, mapS e3, e4⟩
  own := fun k m e => by
    obtain ⟨a, e1, e2⟩ := getL e
    obtain ⟨i, rfl, e3⟩ := argR_own e2
    obtain ⟨v, e4, e5⟩ := ra.atL e1
    obtain ⟨b, o, h1, h2, h3, h4, h5⟩ := S.own i m e3
    rw [e5] at h1; cases h1
    exact ⟨b, o, mapS e4, h2, foC_lent ⟨k, i, e1, e4⟩, h4, h5⟩
  inj := fun j k m m' b h1 h2 h3 h4 => by
    obtain ⟨a, e1, e2⟩ := getL h1
    obtain ⟨i, rfl, e3⟩ := argR_own e2
    obtain ⟨a', f1, f2⟩ := getL h2
    obtain ⟨i', rfl, f3⟩ := argR_own f2
    obtain ⟨v, g1, g2⟩ := ra.atL e1
    obtain ⟨v', g3, g4⟩ := ra.atL f1
    have q1 := mapS' h3
    have q2 := mapS' h4
    rw [g1] at q1; cases q1
    rw [g3] at q2; cases q2
    have : i = i' := S.inj i i' m m' b e3 f3 g2 g4
    subst this
    exact lends_inj nd e1 f1
theorem Sat.back (S : Sat K Fo A H σ ρ) (ra : RepAs K A σ vs as) (al : as.all (fun a => (argR ρ a).isSome) = true) (e : Ex A A') (S' : Sat K (foC A H vs as) A' H' (vs.map some) rs) : Sat K Fo A' H' σ (put as rs ρ) := by
  have hl : as.length = rs.length := by rw [← S'.len, List.length_map, ra.length]
  have ownL : ∀ k j : Nat, as[k]? = some (AV.l j) → ∃ m, ρ[j]? = some (some (R.own m)) := fun k j h => by
    have q := List.all_eq_true.mp al _ (List.mem_of_getElem? h)
    obtain ⟨r, hr⟩ := Option.isSome_iff_exists.mp q
    cases r with
    | val d => cases argR_val hr
    | own m =>
      obtain ⟨i, e1, e2⟩ := argR_own hr
      cases e1
      exact ⟨m, e2⟩
  have away : ∀ (i : Nat) (m : M) (b : Addr), ρ[i]? = some (some (R.own m)) → σ[i]? = some (some (V.ref b)) → (∀ k : Nat, as[k]? ≠ some (AV.l i)) → ¬ Lent vs as b := fun i m b h1 h2 h3 ⟨k, j, h4, h5⟩ => by
    obtain ⟨v, h6, h7⟩ := ra.atL h4
    rw [h5] at h6; cases h6
    obtain ⟨m', h8⟩ := ownL k j h4
    have := S.inj i j m m' b h1 h8 h2 h7
    subst this
    exact h3 k h4
  -- what a slot's own thing is behind
  have owns : ∀ (i : Nat) (m : M), (put as rs ρ)[i]? = some (some (R.own m)) → ∃ (a : Addr) (o : HO), σ[i]? = some (some (V.ref a)) ∧ A' a = none ∧ Fo a = none ∧ H' a = some o ∧ RepM K A' o m ∧ ∃ m0, ρ[i]? = some (some (R.own m0)) := fun i m h => by
    rcases put_get as rs ρ hl h with ⟨h1, h2⟩ | ⟨k, h1, h2⟩
    · obtain ⟨a, o, e1, e2, e3, e4, e5⟩ := S.own i m h1
      have q := S'.fo a o (foC_of e2 (away i m a h1 e1 h2) e4)
      exact ⟨a, o, e1, q.2, e3, q.1, e5.mn e, m, h1⟩
    · obtain ⟨a, o, e1, e2, e3, e4, e5⟩ := S'.own k m h2
      obtain ⟨v, e6, e7⟩ := ra.atL h1
      have q := mapS' e1
      rw [e6] at q; cases q
      obtain ⟨m0, e8⟩ := ownL k i h1
      obtain ⟨a0, o0, f1, f2, f3, f4, f5⟩ := S.own i m0 e8
      rw [e7] at f1; cases f1
      exact ⟨a, o, e7, e2, f3, e4, e5, m0, e8⟩
  refine ⟨S'.ex, fun b o h => ?_, by rw [put_len]; exact S.len, fun i d h => ?_, fun i m h => ?_, fun i j m m' a h1 h2 h3 h4 => ?_⟩
  · obtain ⟨h1, h2⟩ := S.fo b o h
    refine S'.fo b o (foC_of h2 (fun ⟨k, j, h4, h5⟩ => ?_) h1)
    obtain ⟨v, h6, h7⟩ := ra.atL h4
    rw [h5] at h6; cases h6
    obtain ⟨m', h8⟩ := ownL k j h4
    obtain ⟨a, o', f1, f2, f3, _⟩ := S.own j m' h8
    rw [h7] at f1; cases f1
    rw [f3] at h; cases h
  · rcases put_get as rs ρ hl h with ⟨h1, _⟩ | ⟨k, h1, h2⟩
    · obtain ⟨v, e1, e2⟩ := S.val i d h1
      exact ⟨v, e1, e2.mn e⟩
    · obtain ⟨v, e1, e2⟩ := S'.val k d h2
      obtain ⟨v', e3, e4⟩ := ra.atL h1
      have q := mapS' e1
      rw [e3] at q; cases q
      exact ⟨v, e4, e2⟩
  · obtain ⟨a, o, e1, e2, e3, e4, e5, _⟩ := owns i m h
    exact ⟨a, o, e1, e2, e3, e4, e5⟩
  · obtain ⟨_, _, _, _, _, _, _, m0, q1⟩ := owns i m h1
    obtain ⟨_, _, _, _, _, _, _, m1, q2⟩ := owns j m' h2
    exact S.inj i j m0 m1 a q1 q2 h3 h4
theorem RepR.back (S : Sat K Fo A H σ ρ) (ra : RepAs K A σ vs as) (al : as.all (fun a => (argR ρ a).isSome) = true) (e : Ex A A') (S' : Sat K (foC A H vs as) A' H' (vs.map some) rs) {v : V} {r : R}
    (h : RepR K (foC A H vs as) A' H' (vs.map some) rs v r) : RepR K Fo A' H' σ (put as rs ρ) v r := by
  have B := Sat.back S ra al e S'
  have hl : as.length = rs.length := by rw [← S'.len, List.length_map, ra.length]
  cases h with
  | val h => exact .val h
  | own h1 h2 h3 h4 h5 =>
    rename_i a o m
    have hf : ∀ o, A a = none → ¬ Lent vs as a → H a = some o → False := fun o q1 q2 q3 => by
      rw [foC_of q1 q2 q3] at h2; cases h2
    have hA : A a = none := Evl.fresh_back e h1
    refine .own h1 ?_ h3 h4 fun i m' q1 q2 => ?_
    · cases hF : Fo a with
      | none => rfl
      | some o' =>
        obtain ⟨g1, g2⟩ := S.fo a o' hF
        refine (hf o' hA (fun ⟨k, j, h4', h5'⟩ => ?_) g1).elim
        obtain ⟨v, h6, h7⟩ := ra.atL h4'
        rw [h5'] at h6; cases h6
        have q := List.all_eq_true.mp al _ (List.mem_of_getElem? h4')
        obtain ⟨r, hr⟩ := Option.isSome_iff_exists.mp q
        cases r with
        | val d => cases argR_val hr
        | own m1 =>
          obtain ⟨i, e1, e2⟩ := argR_own hr
          cases e1
          obtain ⟨b, o2, f1, f2, f3, _⟩ := S.own j m1 e2
          rw [h7] at f1; cases f1
          rw [f3] at hF; cases hF
    · rcases put_get as rs ρ hl q1 with ⟨g1, g2⟩ | ⟨k, g1, g2⟩
      · obtain ⟨b, o', e1, e2, e3, e4, e5⟩ := S.own i m' g1
        rw [e1] at q2; cases q2
        refine hf o' e2 (fun ⟨k, j, h4', h5'⟩ => ?_) e4
        obtain ⟨v, h6, h7⟩ := ra.atL h4'
        rw [h5'] at h6; cases h6
        have q := List.all_eq_true.mp al _ (List.mem_of_getElem? h4')
        obtain ⟨r, hr⟩ := Option.isSome_iff_exists.mp q
        cases r with
        | val d => cases argR_val hr
        | own m1 =>
          obtain ⟨i', f1, f2⟩ := argR_own hr
          cases f1
          have := S.inj i j m' m1 a g1 f2 e1 h7
          subst this
          exact g2 k h4'
      · obtain ⟨v', e3', e4'⟩ := ra.atL g1
        rw [e4'] at q2; cases q2
        exact h5 k m' g2 (mapS e3')
end
/-! ### contracts -/
/-- a def's promise: called with such arguments it does what c says -/
def spD (K : PySem.W.Frag) (n : Nat) (c : DEn) : Sp := fun vs H Q E => vs.length = n ∧ rd K (fun cls d _ H => E cls d H) c (vs.map some) H Q
theorem sp_call {K : PySem.W.Frag} {W : WX} {Fo A H : Hp} {σ : L2.St} {ρ : Slots} {vs : List V} {as : List AV} {n : Nat} {c : DEn} {Q : VK} (S : Sat K Fo A H σ ρ) (ra : RepAs K A σ vs as) (hn : as.length = n)
    (p : Post K W Fo A σ (callAt c as ρ) Q) : spD K n c vs H Q (WE W σ) := by
  refine ⟨by rw [ra.length, hn], ?_⟩
  unfold callAt at p
  split at p
  · rename_i hc
    refine ⟨foC A H vs as, A, _, S.entry ra hc.1, ?_⟩
    cases hr : c (as.map (argR ρ)) with
    | bad => rw [hr] at p; exact p
    | exc x rs => rw [hr] at p; exact fun cls dct A' H' e S' rx => p cls dct A' H' e (S.back ra hc.2 e S') rx
    | ok r rs => rw [hr] at p; exact fun v A' H' e S' rv => p v A' H' e (S.back ra hc.2 e S') (RepR.back S ra hc.2 e S' rv)
  · exact p.elim
end DL

set_option maxRecDepth 100000
set_option maxHeartbeats 2000000
/-! DL2: expressions. -/
namespace DL
open PySem PySem.Spec L2
open Evl (Ex)

/-- a def stands at f, of level k, n parameters, and does c -/
def FdOk (P : Program) (w : World) (K : PySem.W.Frag) (mg : Str → Option Value) (base : Heap) (k : Nat) (f : Addr) (n : Nat) (c : DEn) : Prop :=
  ∃ fd ps, FnOk P w K mg base (L2.CX P w) k f fd ps (spD K n c) ∧ Binds K fd ps [] ∧ PySem.W.keepIn K (.ref f) = true
theorem FdOk.mono {P : Program} {w : World} {K : PySem.W.Frag} {mg : Str → Option Value} {base : Heap} {j k : Nat} {f : Addr} {n : Nat} {c : DEn} (F : FdOk P w K mg base j f n c) (h : j ≤ k) : FdOk P w K mg base k f n c :=
  let ⟨fd, ps, h1, h2, h3⟩ := F; ⟨fd, ps, h1.mono h, h2, h3⟩
theorem runArgs_len : ∀ {args : List Arg} {ρ ρ1 : Slots} {as : List AV}, runArgs args ρ = .ok as ρ1 → as.length = args.length
  | [], ρ, ρ1, as, h => by cases h; rfl
  | .e d :: r, ρ, ρ1, as, h => by
    unfold runArgs at h
    cases hd : d ρ with
    | bad => rw [hd] at h; cases h
    | exc x ρ2 => rw [hd] at h; cases h
    | ok v ρ2 =>
      rw [hd] at h
      replace h : (runArgs r ρ2).cons (.d v.toD) = .ok as ρ1 := h
      cases ha : runArgs r ρ2 with
      | bad => rw [ha] at h; cases h
      | exc x ρ3 => rw [ha] at h; cases h
      | ok av ρ3 => rw [ha] at h; cases h; exact congrArg Nat.succ (runArgs_len ha)
  | .l i :: r, ρ, ρ1, as, h => by
    unfold runArgs at h
    split at h
    · cases ha : runArgs r ρ with
      | bad => rw [ha] at h; cases h
      | exc x ρ3 => rw [ha] at h; cases h
      | ok av ρ3 => rw [ha] at h; cases h; exact congrArg Nat.succ (runArgs_len ha)
    · cases h

section
variable {K : PySem.W.Frag} {W : WX} {Fo A A' H H' : Hp} {σ : L2.St} {ρ : Slots} {Q : VK} {v : V} {d : D}
theorem Post.now (p : Post K W Fo A σ (.ok (.val d) ρ) Q) (S : Sat K Fo A H σ ρ) (r : Rep K A v d) : Q v H := p v A H (Evl.Ex.refl A) S (.val r)
theorem Post.newL {vs : List V} {ds : List D} {a : Addr} (p : Post K W Fo A σ (.ok (.own (.lst ds)) ρ) Q) (S : Sat K Fo A H σ ρ) (h : H a = none) (r : RepL K A vs ds) : Q (.ref a) (upd H a (.lst vs)) :=
  p _ A _ (Evl.Ex.refl A) (S.fresh h) (S.newOwn h (.lst r))
theorem Post.newT {vs : List V} {ds : List D} {a : Addr} (p : Post K W Fo A σ (.ok (.val (.tup ds)) ρ) Q) (S : Sat K Fo A H σ ρ) (h : H a = none) (r : RepL K A vs ds) : Q (.ref a) (upd H a (.tup vs)) :=
  p _ (upd A a (.tup vs)) _ (Ex.new (S.freeA h)) (S.new h) (.val (.tup (.inl (.inl upd_same)) (r.mn (Ex.new (S.freeA h)))))
/-- slot i's own thing is taken as data from now on -/
theorem Sat.freezeSlot {i : Nat} {m : M} (S : Sat K Fo A H σ ρ) (h : ρ[i]? = some (some (.own m))) : ∃ a o, σ[i]? = some (some (V.ref a)) ∧ A a = none ∧ Sat K Fo (upd A a o) H σ (ρ.set i (some (.val m.toD))) ∧ Rep K (upd A a o) (.ref a) m.toD := by
  obtain ⟨a, o, e1, e2, e3, e4, e5⟩ := S.own i m h
  have rep := e5.freeze e2
  refine ⟨a, o, e1, e2, ⟨ex_upd S.ex e2 e4, fun b u q => ⟨(S.fo b u q).1, ?_⟩, by rw [List.length_set]; exact S.len, fun j d q => ?_, fun j m' q => ?_, fun j k m1 m2 b q1 q2 q3 q4 => ?_⟩, rep⟩
  · have nb : b ≠ a := fun z => by subst z; rw [e3] at q; cases q
    rw [upd_ne nb]; exact (S.fo b u q).2
  · rw [List.getElem?_set] at q
    split at q
    · rename_i hij; subst hij
      split at q
      · cases q; exact ⟨_, e1, rep⟩
      · cases q
    · obtain ⟨v, g1, g2⟩ := S.val j d q
      exact ⟨v, g1, g2.mn (Ex.new e2)⟩
  · rw [List.getElem?_set] at q
    split at q
    · split at q <;> cases q
    · rename_i hij
      obtain ⟨b, u, g1, g2, g3, g4, g5⟩ := S.own j m' q
      have nb : b ≠ a := fun z => by subst z; exact hij (S.inj i j m m' b h q e1 g1)
      exact ⟨b, u, g1, by rw [upd_ne nb]; exact g2, g3, g4, g5.mn (Ex.new e2)⟩
  · rw [List.getElem?_set] at q1 q2
    split at q1
    · split at q1 <;> cases q1
    · split at q2
      · split at q2 <;> cases q2
      · exact S.inj j k m1 m2 b q1 q2 q3 q4
end

/-! ### names, constants -/
def dVar (i : Nat) : DEn := fun ρ => match ρ[i]? with
  | some (some (.val d)) => .ok (.val d) ρ
  | some (some (.own m)) => .ok (.val m.toD) (ρ.set i (some (.val m.toD)))
  | _ => .bad
def dC (d : D) : DEn := fun ρ => .ok (.val d) ρ
section
variable {X : Cx} {W : WX}
theorem de_var {i : Nat} {e : Expr} (h : PE X e (tVar i)) : DE X W e (dVar i) := PE.weak h fun σ H Q ⟨Fo, A, ρ, S, p⟩ => by
  unfold dVar at p
  cases hi : ρ[i]? with
  | none => rw [hi] at p; exact p.elim
  | some o =>
    cases o with
    | none => rw [hi] at p; exact p.elim
    | some r =>
      cases r with
      | val d =>
        rw [hi] at p
        obtain ⟨v, e1, e2⟩ := S.val i d hi
        exact ⟨v, e1, p.now S e2⟩
      | own m =>
        rw [hi] at p
        obtain ⟨a, o, e1, e2, S', r⟩ := S.freezeSlot hi
        exact ⟨.ref a, e1, p _ _ _ (Ex.new e2) S' (.val r)⟩
theorem de_c {v : V} {d : D} {e : Expr} (h : PE X e (tC v)) (r : ∀ K A, Rep K A v d) : DE X W e (dC d) := PE.weak h fun σ H Q ⟨Fo, A, ρ, S, p⟩ => Post.now p S (r _ _)
theorem de_int {i j pos} : DE X W (.Constant (.int i) j pos) (dC (.int i)) := de_c pe_int fun _ _ => .int _
theorem de_bl {b j pos} : DE X W (.Constant (.bool b) j pos) (dC (.bl b)) := de_c pe_bl fun _ _ => .bl _
theorem de_non {j pos} : DE X W (.Constant .none j pos) (dC .non) := de_c pe_non fun _ _ => .non
theorem de_str {x j pos} : DE X W (.Constant (.str x) j pos) (dC (.str x)) := de_c pe_str fun _ _ => .str _
/-- a module's int, text -/
theorem de_globI {x : Str} {i : Int} {pos : Pos} (hg : Gl X x) (hm : ∃ t, X.mg x = some (.int i t)) (hd : (x == ("__debug__" : Str)) = false := by decide) : DE X W (.Name x pos) (dC (.int i)) := by
  obtain ⟨t, h⟩ := hm
  exact de_c (pe_glob hg h (v := .int i) ⟨t, rfl⟩ hd) fun _ _ => .int _
theorem de_globS {x z : Str} {pos : Pos} (hg : Gl X x) (hm : ∃ t, X.mg x = some (.str z t)) (hd : (x == ("__debug__" : Str)) = false := by decide) : DE X W (.Name x pos) (dC (.str z)) := by
  obtain ⟨t, h⟩ := hm
  exact de_c (pe_glob hg h (v := .str z) ⟨t, rfl⟩ hd) fun _ _ => .str _
end

/-! ### operations of two values -/
def OpD (X : Cx) (W : WX) (f : Value → Value → Sem Value) (g : D → D → VRes) : Prop :=
  ∀ (pins : List (Addr × Obj)) (s : Shared) (σ : L2.St) (H Fo A : Hp) (ρ : Slots) (x y : V) (v u : Value) (dx dy : D) (Q : VK), Inv X pins σ H s → RelV x v → RelV y u → Sat X.K Fo A H σ ρ → Rep X.K A x dx → Rep X.K A y dy →
    Post X.K W Fo A σ ((g dx dy).at ρ) Q → wpAny (model X.prog X.w) X.A (f v u) (EP X pins σ Q) X.xe s
def UnD (X : Cx) (W : WX) (f : Value → Sem Value) (g : D → VRes) : Prop :=
  ∀ (pins : List (Addr × Obj)) (s : Shared) (σ : L2.St) (H Fo A : Hp) (ρ : Slots) (x : V) (v : Value) (dx : D) (Q : VK), Inv X pins σ H s → RelV x v → Sat X.K Fo A H σ ρ → Rep X.K A x dx →
    Post X.K W Fo A σ ((g dx).at ρ) Q → wpAny (model X.prog X.w) X.A (f v) (EP X pins σ Q) X.xe s
def CallD (X : Cx) (W : WX) (f : Value) (g : List D → VRes) : Prop :=
  ∀ (pins : List (Addr × Obj)) (s : Shared) (σ : L2.St) (H Fo A : Hp) (ρ : Slots) (xs : List V) (us : List Value) (ds : List D) (Q : VK), Inv X pins σ H s → Vals xs us → Sat X.K Fo A H σ ρ → RepL X.K A xs ds →
    Post X.K W Fo A σ ((g ds).at ρ) Q → wpAny (model X.prog X.w) X.A (call f us) (EP X pins σ Q) X.xe s
def dBin (g : D → D → VRes) (da db : DEn) : DEn := fun ρ => (da ρ).bind fun x ρ1 => (db ρ1).bind fun y ρ2 => (g x y).at ρ2
def dUn (g : D → VRes) (da : DEn) : DEn := fun ρ => (da ρ).bind fun x ρ1 => (g x).at ρ1
section
variable {X : Cx} {W : WX} {a b : Expr} {da db : DEn} {pos : Pos}
theorem OpD.of {f : Value → Value → Sem Value} {g : D → D → VRes} {r : R2} (h : OpR X f r)
    (k : ∀ (σ : L2.St) (H Fo A : Hp) (ρ : Slots) (x y : V) (dx dy : D) (Q : VK), Sat X.K Fo A H σ ρ → Rep X.K A x dx → Rep X.K A y dy → Post X.K W Fo A σ ((g dx dy).at ρ) Q → r x y H Q) : OpD X W f g :=
  fun pins s σ H Fo A ρ x y v u dx dy Q I r1 r2 S h1 h2 p => h pins s σ H x y v u Q I r1 r2 (k σ H Fo A ρ x y dx dy Q S h1 h2 p)
theorem UnD.of {f : Value → Sem Value} {g : D → VRes} {r : V → Hp → VK → Prop} (h : UnR X f r)
    (k : ∀ (σ : L2.St) (H Fo A : Hp) (ρ : Slots) (x : V) (dx : D) (Q : VK), Sat X.K Fo A H σ ρ → Rep X.K A x dx → Post X.K W Fo A σ ((g dx).at ρ) Q → r x H Q) : UnD X W f g :=
  fun pins s σ H Fo A ρ x v dx Q I r1 S h1 p => h pins s σ H x v Q I r1 (k σ H Fo A ρ x dx Q S h1 p)
theorem CallD.of {f : Value} {g : List D → VRes} {r : List V → Hp → VK → Prop} (h : CallR X f r)
    (k : ∀ (σ : L2.St) (H Fo A : Hp) (ρ : Slots) (xs : List V) (ds : List D) (Q : VK), Sat X.K Fo A H σ ρ → RepL X.K A xs ds → Post X.K W Fo A σ ((g ds).at ρ) Q → r xs H Q) : CallD X W f g :=
  fun pins s σ H Fo A ρ xs us ds Q I r1 S h1 p => h pins s σ H xs us Q I r1 (k σ H Fo A ρ xs ds Q S h1 p)
/-- both operands, then on -/
theorem rd_bin {g : D → D → VRes} {R2' : L2.St → V → V → Hp → VK → Prop} {σ : L2.St} {H : Hp} {Q : VK} (h : rd X.K W (dBin g da db) σ H Q)
    (k : ∀ (H Fo A : Hp) (ρ : Slots) (x y : V) (dx dy : D), Sat X.K Fo A H σ ρ → Rep X.K A x dx → Rep X.K A y dy → Post X.K W Fo A σ ((g dx dy).at ρ) Q → R2' σ x y H Q) :
    rd X.K W da σ H fun x H1 => rd X.K W db σ H1 fun y H2 => R2' σ x y H2 Q := by
  obtain ⟨Fo, A, ρ, S, p⟩ := h
  refine ⟨Fo, A, ρ, S, post_bind p fun x dx A1 H1 ρ1 e1 S1 r1 p1 => ⟨Fo, A1, ρ1, S1, post_bind p1 fun y dy A2 H2 ρ2 e2 S2 r2 p2 => ?_⟩⟩
  exact k H2 Fo A2 ρ2 x y dx dy S2 (r1.mn e2) r2 p2
theorem de_bin {op : Operator} {g : D → D → VRes} (ho : OpD X W (binaryOp op) g) (ha : DE X W a da) (hb : DE X W b db) : DE X W (.BinOp a op b pos) (dBin g da db) := by
  refine ⟨fun pins s σ H Q I h => ?_⟩
  have h' := rd_bin (R2' := fun σ x y H Q => ∃ Fo A ρ dx dy, Sat X.K Fo A H σ ρ ∧ Rep X.K A x dx ∧ Rep X.K A y dy ∧ Post X.K W Fo A σ ((g dx dy).at ρ) Q) h fun H Fo A ρ x y dx dy S r1 r2 p => ⟨Fo, A, ρ, dx, dy, S, r1, r2, p⟩
  exact wpAny_BinOp (binT ha hb I h' fun v u s2 x y H2 I2 rx ry ⟨Fo, A, ρ, dx, dy, S, r1, r2, p⟩ => ho pins s2 σ H2 Fo A ρ x y v u dx dy Q I2 rx ry S r1 r2 p)
theorem de_cmp {op : CmpOp} {g : D → D → VRes} (ho : OpD X W (compareOp op) g) (ha : DE X W a da) (hb : DE X W b db) (hm : behindInMarks op b = false) : DE X W (.Compare a [op] [b] pos) (dBin g da db) := by
  refine ⟨fun pins s σ H Q I h => ?_⟩
  have h' := rd_bin (R2' := fun σ x y H Q => ∃ Fo A ρ dx dy, Sat X.K Fo A H σ ρ ∧ Rep X.K A x dx ∧ Rep X.K A y dy ∧ Post X.K W Fo A σ ((g dx dy).at ρ) Q) h fun H Fo A ρ x y dx dy S r1 r2 p => ⟨Fo, A, ρ, dx, dy, S, r1, r2, p⟩
  exact wpAny_Compare1 (binT ha hb I h' fun v u s2 x y H2 I2 rx ry ⟨Fo, A, ρ, dx, dy, S, r1, r2, p⟩ => ho pins s2 σ H2 Fo A ρ x y v u dx dy Q I2 rx ry S r1 r2 p) hm
theorem de_un {op : UnaryOp} {g : D → VRes} (ho : UnD X W (unaryOp op) g) (ha : DE X W a da) : DE X W (.UnaryOp op a pos) (dUn g da) := by
  refine ⟨fun pins s σ H Q I h => ?_⟩
  obtain ⟨Fo, A, ρ, S, p⟩ := h
  have h' : rd X.K W da σ H fun x H1 => ∃ A ρ dx, Sat X.K Fo A H1 σ ρ ∧ Rep X.K A x dx ∧ Post X.K W Fo A σ ((g dx).at ρ) Q := ⟨Fo, A, ρ, S, post_bind p fun x dx A1 H1 ρ1 e1 S1 r1 p1 => ⟨A1, ρ1, dx, S1, r1, p1⟩⟩
  exact PyProof.Rows.UnaryOp_ (thn (ha.run pins s σ H _ I h') fun v s1 ⟨x, H1, I1, r1, A1, ρ1, dx, S1, r2, p1⟩ => ho pins s1 σ H1 Fo A1 ρ1 x v dx Q I1 r1 S1 r2 p1)
end

/-! ### whole numbers -/
def gI (g : Int → Int → D) : D → D → VRes
  | .int i, .int j => .ok (.val (g i j))
  | _, _ => .bad
def gIc (c : Int → Int → Bool) (g : Int → Int → D) : D → D → VRes
  | .int i, .int j => if c i j then .ok (.val (g i j)) else .bad
  | _, _ => .bad
def mulOk (i j : Int) : Bool := decide (i.natAbs < 2 ^ 63) || (decide (j.natAbs < 2 ^ 63) || decide ((Builtin.Int.intBits i : Int) + (Builtin.Int.intBits j : Int) ≤ 134217728))
def divOk (_ j : Int) : Bool := decide (0 < j) && decide (j.natAbs.log2 < 9000)
def modOk (_ j : Int) : Bool := decide (0 < j)
def powOk (i j : Int) : Bool := decide (0 ≤ j) && (decide (j ≤ 1000000) && decide (i.natAbs < 2 ^ 63))
section
variable {X : Cx} {W : WX}
theorem opd_I {f : Value → Value → Sem Value} {g : Int → Int → V} {g' : Int → Int → D} (h : OpR X f (rI0 g)) (hg : ∀ K A i j, Rep K A (g i j) (g' i j)) : OpD X W f (gI g') := OpD.of h fun σ H Fo A ρ x y dx dy Q S r1 r2 p => by
  cases r1 <;> cases r2 <;> first | exact p.elim | exact ⟨_, _, rfl, rfl, p.now S (hg _ _ _ _)⟩
theorem opd_Ic {f : Value → Value → Sem Value} {C : Int → Int → Prop} {c : Int → Int → Bool} {g : Int → Int → V} {g' : Int → Int → D} (h : OpR X f (rI C g)) (hc : ∀ i j, c i j = true → C i j) (hg : ∀ K A i j, Rep K A (g i j) (g' i j)) : OpD X W f (gIc c g') := OpD.of h fun σ H Fo A ρ x y dx dy Q S r1 r2 p => by
  cases r1 <;> cases r2 <;> first
    | exact p.elim
    | (rename_i i j
       replace p : Post _ _ _ _ _ ((if c i j then VRes.ok (.val (g' i j)) else .bad).at ρ) Q := p
       cases hc' : c i j with
       | false => rw [hc'] at p; exact p.elim
       | true => rw [hc'] at p; exact ⟨_, _, rfl, rfl, hc _ _ hc', Post.now (show Post _ _ _ _ _ (.ok (.val _) _) _ from p) S (hg _ _ _ _)⟩)
theorem o_add : OpD X W (binaryOp .Add) (gI fun i j => .int (i + j)) := opd_I op_add fun _ _ _ _ => .int _
theorem o_sub : OpD X W (binaryOp .Sub) (gI fun i j => .int (i - j)) := opd_I op_sub fun _ _ _ _ => .int _
theorem o_mul : OpD X W (binaryOp .Mult) (gIc mulOk fun i j => .int (i * j)) := OpD.of (r := fun x y H Q => rI CMul (fun i j => V.int (i * j)) x y H Q ∨ rI CMulX (fun i j => V.int (i * j)) x y H Q) (fun pins s σ H x y v u Q I r1 r2 h => h.elim (op_mul pins s σ H x y v u Q I r1 r2) (op_mulX pins s σ H x y v u Q I r1 r2)) fun σ H Fo A ρ x y dx dy Q S r1 r2 p => by
  cases r1 <;> cases r2 <;> first
    | exact p.elim
    | (rename_i i j
       replace p : Post _ _ _ _ _ ((if mulOk i j then VRes.ok (.val (.int (i * j))) else .bad).at ρ) Q := p
       cases hc' : mulOk i j with
       | false => rw [hc'] at p; exact p.elim
       | true =>
         rw [hc'] at p
         have q := Post.now (show Post _ _ _ _ _ (.ok (.val _) _) _ from p) S (.int _)
         unfold mulOk at hc'
         simp only [Bool.or_eq_true, decide_eq_true_eq] at hc'
         rcases hc' with h | h | h
         · exact .inl ⟨_, _, rfl, rfl, .inl ⟨by omega, by omega⟩, q⟩
         · exact .inl ⟨_, _, rfl, rfl, .inr ⟨by omega, by omega⟩, q⟩
         · exact .inr ⟨_, _, rfl, rfl, h, q⟩)
theorem o_fdiv : OpD X W (binaryOp .FloorDiv) (gIc divOk fun i j => .int (i / j)) := opd_Ic op_fdivW (fun i j h => by unfold divOk at h; simp only [Bool.and_eq_true, decide_eq_true_eq] at h; exact h) fun _ _ _ _ => .int _
theorem o_mod : OpD X W (binaryOp .Mod) (gIc modOk fun i j => .int (i % j)) := opd_Ic op_mod (fun i j h => of_decide_eq_true h) fun _ _ _ _ => .int _
theorem o_pow : OpD X W (binaryOp .Pow) (gIc powOk fun i j => .int (i ^ j.toNat)) := opd_Ic op_pow (fun i j h => by unfold powOk at h; simp only [Bool.and_eq_true, decide_eq_true_eq] at h; exact ⟨h.1, h.2.1, by omega⟩) fun _ _ _ _ => .int _
theorem o_lt : OpD X W (compareOp .Lt) (gI fun i j => .bl (decide (i < j))) := opd_I op_lt fun _ _ _ _ => .bl _
theorem o_le : OpD X W (compareOp .LtE) (gI fun i j => .bl (decide (i ≤ j))) := opd_I op_le fun _ _ _ _ => .bl _
theorem o_gt : OpD X W (compareOp .Gt) (gI fun i j => .bl (decide (j < i))) := opd_I op_gt fun _ _ _ _ => .bl _
theorem o_ge : OpD X W (compareOp .GtE) (gI fun i j => .bl (decide (j ≤ i))) := opd_I op_ge fun _ _ _ _ => .bl _
end
end DL

set_option maxRecDepth 100000
set_option maxHeartbeats 2000000
/-! DL3: texts, lists, equality, tests. -/
namespace DL
open PySem PySem.Spec L2
open Evl (Ex)

/-! ### plain data -/
mutual
def D.py : D → Option PyData
  | .non => some .none
  | .bl b => some (.bool b)
  | .int i => some (.int i)
  | .str s => some (.str s)
  | .lst ds => (pyL ds).map .list
  | .fix ds => (pyL ds).map .list
  | .tup ds => (pyL ds).map .tuple
  | _ => none
def pyL : List D → Option (List PyData)
  | [] => some []
  | d :: ds => match d.py, pyL ds with
    | some p, some ps => some (p :: ps)
    | _, _ => none
end
section
variable {K : PySem.W.Frag} {A : Hp}
mutual
theorem Rep.dp : ∀ (d : D) (v : V) (p : PyData), Rep K A v d → d.py = some p → Dp K A v p
  | .non, _, _, h, e => by cases h; cases e; exact .non
  | .bl _, _, _, h, e => by cases h; cases e; exact .bl _
  | .int _, _, _, h, e => by cases h; cases e; exact .int _
  | .str _, _, _, h, e => by cases h; cases e; exact .str _
  | .lst ds, _, p, h, e => by
    cases h with
    | lst h r =>
      obtain ⟨ps, e1, e2⟩ := Option.map_eq_some_iff.mp (show (pyL ds).map _ = some p from e)
      subst e2
      exact .lst (.inl (.inl h)) (RepL.dp ds _ ps r e1)
  | .fix ds, _, p, h, e => by
    cases h with
    | fix h r =>
      obtain ⟨ps, e1, e2⟩ := Option.map_eq_some_iff.mp (show (pyL ds).map _ = some p from e)
      subst e2
      exact .lst h (RepL.dp ds _ ps r e1)
  | .tup ds, _, p, h, e => by
    cases h with
    | tup h r =>
      obtain ⟨ps, e1, e2⟩ := Option.map_eq_some_iff.mp (show (pyL ds).map _ = some p from e)
      subst e2
      exact .tup h (RepL.dp ds _ ps r e1)
  | .ty _, _, _, _, e => by cases e
  | .adr _, _, _, _, e => by cases e
  | .ins _ _ _, _, _, _, e => by cases e
  | .dic _ _, _, _, _, e => by cases e
  | .dit _ _, _, _, _, e => by cases e
theorem RepL.dp : ∀ (ds : List D) (vs : List V) (ps : List PyData), RepL K A vs ds → pyL ds = some ps → DpAll K A vs ps
  | [], _, _, h, e => by cases h; cases e; exact .nil
  | d :: ds, _, ps, h, e => by
    cases h with
    | cons h r =>
      unfold pyL at e
      cases e1 : d.py with
      | none => rw [e1] at e; cases e
      | some p =>
        cases e2 : pyL ds with
        | none => rw [e1, e2] at e; cases e
        | some qs =>
          rw [e1, e2] at e
          cases e
          exact .cons (Rep.dp d _ p h e1) (RepL.dp ds _ qs r e2)
end
end
/-- a == b of plain data -/
def eqP (x y : D) : Option Bool := match x.py, y.py with
  | some p, some q => if SeqAt.shaped p && SeqAt.shaped q then some (PyData.eqv p q) else none
  | _, _ => none
def gEq : D → D → VRes
  | .int i, .int j => .ok (.val (.bl (decide (i = j))))
  | .str i, .str j => .ok (.val (.bl (decide (i = j))))
  | .bl i, .bl j => .ok (.val (.bl (decide (i = j))))
  | x, y => match eqP x y with
    | some b => .ok (.val (.bl b))
    | none => .bad
def VRes.not : VRes → VRes
  | .ok (.val (.bl b)) => .ok (.val (.bl !b))
  | .exc x => .exc x
  | _ => .bad
def gNe (x y : D) : VRes := (gEq x y).not
section
variable {X : Cx} {W : WX}
theorem OpD.or {f : Value → Value → Sem Value} {g : D → D → VRes} {r r' : R2} (h : OpR X f r) (h' : OpR X f r')
    (k : ∀ (σ : L2.St) (H Fo A : Hp) (ρ : Slots) (x y : V) (dx dy : D) (Q : VK), Sat X.K Fo A H σ ρ → Rep X.K A x dx → Rep X.K A y dy → Post X.K W Fo A σ ((g dx dy).at ρ) Q → r x y H Q ∨ r' x y H Q) : OpD X W f g :=
  OpD.of (r := fun x y H Q => r x y H Q ∨ r' x y H Q) (fun pins s σ H x y v u Q I r1 r2 q => q.elim (h pins s σ H x y v u Q I r1 r2) (h' pins s σ H x y v u Q I r1 r2)) k
theorem eqD_of {K : PySem.W.Frag} {Fo A H : Hp} {σ : L2.St} {ρ : Slots} {x y : V} {dx dy : D} {Q : VK} {W : WX} (neg : Bool) (S : Sat K Fo A H σ ρ) (r1 : Rep K A x dx) (r2 : Rep K A y dy)
    (p : Post K W Fo A σ ((match eqP dx dy with | some b => VRes.ok (.val (.bl (if neg then !b else b))) | none => .bad).at ρ) Q) : (if neg then rNeD K else rEqD K) x y H Q := by
  unfold eqP at p
  cases e1 : dx.py with
  | none => rw [e1] at p; exact p.elim
  | some a =>
    cases e2 : dy.py with
    | none => rw [e1, e2] at p; exact p.elim
    | some b =>
      rw [e1, e2] at p
      replace p : Post K W Fo A σ ((match (if SeqAt.shaped a && SeqAt.shaped b then some (PyData.eqv a b) else none) with | some b => VRes.ok (.val (.bl (if neg then !b else b))) | none => .bad).at ρ) Q := p
      cases e3 : (SeqAt.shaped a && SeqAt.shaped b) with
      | false => rw [e3] at p; exact p.elim
      | true =>
        rw [e3] at p
        obtain ⟨s1, s2⟩ := Bool.and_eq_true_iff.mp e3
        cases neg with
        | false => exact ⟨a, b, (r1.mn S.ex).dp _ _ _ e1, (r2.mn S.ex).dp _ _ _ e2, s1, s2, Post.now p S (.bl _)⟩
        | true => exact ⟨a, b, (r1.mn S.ex).dp _ _ _ e1, (r2.mn S.ex).dp _ _ _ e2, s1, s2, Post.now p S (.bl _)⟩
theorem o_eq (hu : X.A.units + 64 < cLine) : OpD X W (compareOp .Eq) gEq := OpD.or op_eq (op_eqD hu) fun σ H Fo A ρ x y dx dy Q S r1 r2 p => by
  have other : Post X.K W Fo A σ ((match eqP dx dy with | some b => VRes.ok (.val (.bl b)) | none => .bad).at ρ) Q → rEq x y H Q ∨ rEqD X.K x y H Q := fun p => .inr (eqD_of false S r1 r2 p)
  cases dx with
  | int i =>
    cases dy with
    | int j =>
      cases r1; cases r2
      refine .inl ⟨rfl, ?_⟩
      have q := Post.now (d := .bl (decide (i = j))) p S (.bl _)
      rw [show decide (V.int i = V.int j) = decide (i = j) from decide_eq_decide.mpr ⟨fun h => V.int.inj h, fun h => h ▸ rfl⟩]
      exact q
    | _ => exact other p
  | str i =>
    cases dy with
    | str j =>
      cases r1; cases r2
      refine .inl ⟨rfl, ?_⟩
      have q := Post.now (d := .bl (decide (i = j))) p S (.bl _)
      rw [show decide (V.str i = V.str j) = decide (i = j) from decide_eq_decide.mpr ⟨fun h => V.str.inj h, fun h => h ▸ rfl⟩]
      exact q
    | _ => exact other p
  | bl i =>
    cases dy with
    | bl j =>
      cases r1; cases r2
      refine .inl ⟨rfl, ?_⟩
      have q := Post.now (d := .bl (decide (i = j))) p S (.bl _)
      rw [show decide (V.bl i = V.bl j) = decide (i = j) from decide_eq_decide.mpr ⟨fun h => V.bl.inj h, fun h => h ▸ rfl⟩]
      exact q
    | _ => exact other p
  | _ => exact other p
theorem o_ne (hu : X.A.units + 64 < cLine) : OpD X W (compareOp .NotEq) gNe := OpD.or op_ne (op_neD hu) fun σ H Fo A ρ x y dx dy Q S r1 r2 p => by
  have other : Post X.K W Fo A σ (((match eqP dx dy with | some b => VRes.ok (.val (.bl b)) | none => .bad).not).at ρ) Q → rNe x y H Q ∨ rNeD X.K x y H Q := fun p => by
    refine .inr (eqD_of (W := W) (ρ := ρ) (Fo := Fo) true S r1 r2 ?_)
    cases e : eqP dx dy with
    | none => rw [e] at p; exact p
    | some b => rw [e] at p; exact p
  cases dx with
  | int i =>
    cases dy with
    | int j =>
      cases r1; cases r2
      refine .inl ⟨rfl, ?_⟩
      have q := Post.now (d := .bl (!decide (i = j))) p S (.bl _)
      rw [show decide (V.int i = V.int j) = decide (i = j) from decide_eq_decide.mpr ⟨fun h => V.int.inj h, fun h => h ▸ rfl⟩]
      exact q
    | _ => exact other p
  | str i =>
    cases dy with
    | str j =>
      cases r1; cases r2
      refine .inl ⟨rfl, ?_⟩
      have q := Post.now (d := .bl (!decide (i = j))) p S (.bl _)
      rw [show decide (V.str i = V.str j) = decide (i = j) from decide_eq_decide.mpr ⟨fun h => V.str.inj h, fun h => h ▸ rfl⟩]
      exact q
    | _ => exact other p
  | bl i =>
    cases dy with
    | bl j =>
      cases r1; cases r2
      refine .inl ⟨rfl, ?_⟩
      have q := Post.now (d := .bl (!decide (i = j))) p S (.bl _)
      rw [show decide (V.bl i = V.bl j) = decide (i = j) from decide_eq_decide.mpr ⟨fun h => V.bl.inj h, fun h => h ▸ rfl⟩]
      exact q
    | _ => exact other p
  | _ => exact other p
end

/-! ### sums, repeats of texts and lists -/
def gAddS : D → D → VRes
  | .str i, .str j => if i.length + j.length ≤ sizeLine then .ok (.val (.str (i ++ j))) else .bad
  | _, _ => .bad
def gCat : D → D → VRes
  | .lst i, .lst j => if i.length + j.length ≤ sizeLine then .ok (.own (.lst (i ++ j))) else .bad
  | _, _ => .bad
def gRep : D → D → VRes
  | .lst i, .int k => if -(2 ^ 63) ≤ k ∧ k < 2 ^ 63 ∧ i.length * k.toNat ≤ sizeLine then .ok (.own (.lst (List.replicate k.toNat i).flatten)) else .bad
  | _, _ => .bad

theorem ifB {α : Type} {c : Prop} [Decidable c] {a b : α} {P : α → Prop} (h : P (if c then a else b)) (hb : P b → False) : c ∧ P a := by
  by_cases hc : c
  · rw [if_pos hc] at h; exact ⟨hc, h⟩
  · rw [if_neg hc] at h; exact (hb h).elim
section
variable {X : Cx} {W : WX}
theorem o_addS : OpD X W (binaryOp .Add) gAddS := OpD.of op_add_str fun σ H Fo A ρ x y dx dy Q S r1 r2 p => by
  cases r1 <;> cases r2 <;> first
    | exact p.elim
    | (obtain ⟨hc, p⟩ := ifB (P := fun z : VRes => Post X.K W Fo A σ (z.at ρ) Q) p id
       exact ⟨_, _, rfl, rfl, hc, Post.now (d := .str _) p S (.str _)⟩)
theorem o_cat : OpD X W (binaryOp .Add) gCat := OpD.of op_cat fun σ H Fo A ρ x y dx dy Q S r1 r2 p => by
  cases r1 <;> cases r2 <;> first
    | exact p.elim
    | (rename_i h1 l1 _ _ _ h2 l2
       obtain ⟨hc, p⟩ := ifB (P := fun z : VRes => Post X.K W Fo A σ (z.at ρ) Q) p id
       exact ⟨_, _, _, _, rfl, rfl, S.ex _ _ h1, S.ex _ _ h2, by rw [l1.length, l2.length]; exact hc, fun q hq => Post.newL p S hq (l1.append l2)⟩)
theorem RepL.rep {K : PySem.W.Frag} {A : Hp} {vs : List V} {ds : List D} (h : RepL K A vs ds) : ∀ n : Nat, RepL K A (List.replicate n vs).flatten (List.replicate n ds).flatten
  | 0 => .nil
  | n + 1 => by
    rw [List.replicate_succ, List.replicate_succ, List.flatten_cons, List.flatten_cons]
    exact h.append (h.rep n)
theorem o_rep : OpD X W (binaryOp .Mult) gRep := OpD.of op_rep fun σ H Fo A ρ x y dx dy Q S r1 r2 p => by
  cases r1 <;> cases r2 <;> first
    | exact p.elim
    | (rename_i h1 l1 k
       obtain ⟨hc, p⟩ := ifB (P := fun z : VRes => Post X.K W Fo A σ (z.at ρ) Q) p id
       exact ⟨_, _, _, rfl, rfl, S.ex _ _ h1, hc.1, hc.2.1, by rw [l1.length]; exact hc.2.2, fun q hq => Post.newL p S hq (l1.rep _)⟩)
/-- two readings of an operator, by the data -/
def gOr (g g' : D → D → VRes) (x y : D) : VRes := match g x y with
  | .bad => g' x y
  | r => r
theorem OpD.gor {f : Value → Value → Sem Value} {g g' : D → D → VRes} (h : OpD X W f g) (h' : OpD X W f g') : OpD X W f (gOr g g') := fun pins s σ H Fo A ρ x y v u dx dy Q I r1 r2 S q1 q2 p => by
  unfold gOr at p
  cases e : g dx dy with
  | bad => rw [e] at p; exact h' pins s σ H Fo A ρ x y v u dx dy Q I r1 r2 S q1 q2 p
  | ok r => rw [e] at p; exact h pins s σ H Fo A ρ x y v u dx dy Q I r1 r2 S q1 q2 (by rw [e]; exact p)
  | exc x => rw [e] at p; exact h pins s σ H Fo A ρ _ y v u dx dy Q I r1 r2 S q1 q2 (by rw [e]; exact p)
def gAdd : D → D → VRes := gOr (gI fun i j => .int (i + j)) (gOr gAddS gCat)
def gMul : D → D → VRes := gOr (gIc mulOk fun i j => .int (i * j)) gRep
theorem o_add' : OpD X W (binaryOp .Add) gAdd := o_add.gor (o_addS.gor o_cat)
theorem o_mul' : OpD X W (binaryOp .Mult) gMul := o_mul.gor o_rep

/-! ### items, slices -/
def gIx : D → D → VRes
  | .lst xs, .int i => match atI xs i with
    | some d => .ok (.val d)
    | none => .bad
  | .fix xs, .int i => match atI xs i with
    | some d => .ok (.val d)
    | none => .bad
  | .tup xs, .int i => match atI xs i with
    | some d => .ok (.val d)
    | none => .bad
  | .str z, .int i => if z.length ≤ sizeLine then (match atI z.cps.toList i with
    | some c => .ok (.val (.str ⟨#[c]⟩))
    | none => .bad) else .bad
  | _, _ => .bad
theorem RepL.atI {K : PySem.W.Frag} {A : Hp} {vs : List V} {ds : List D} {i : Int} {d : D} (h : RepL K A vs ds) (e : L2.atI ds i = some d) : ∃ v, L2.atI vs i = some v ∧ Rep K A v d := by
  unfold L2.atI at e ⊢
  rw [h.length]
  cases q : ixN ds.length i with
  | none => rw [q] at e; cases e
  | some j => rw [q] at e; exact h.get e
def IxD (X : Cx) (W : WX) (g : D → D → VRes) : Prop :=
  ∀ (value slice : Expr) (pins : List (Addr × Obj)) (s : Shared) (σ : L2.St) (H Fo A : Hp) (ρ : Slots) (x y : V) (v u : Value) (dx dy : D) (Q : VK), Inv X pins σ H s → RelV x v → RelV y u → Sat X.K Fo A H σ ρ → Rep X.K A x dx → Rep X.K A y dy →
    Post X.K W Fo A σ ((g dx dy).at ρ) Q → subscripted slice false v u = operate [v, u] (getItem v u) → wpAny (model X.prog X.w) X.A (PyProof.Rows.subscriptTail value slice v u) (EP X pins σ Q) X.xe s
theorem i_ix : IxD X W gIx := by
  intro value slice pins s σ H Fo A ρ x y v u dx dy Q I r1 r2 S q1 q2 p hs
  refine ix_seq (X := X) value slice pins s σ H x y v u Q I r1 r2 ?_ hs
  cases q1 <;> cases q2 <;> first
    | exact p.elim
    | (rename_i xs ds h l i
       unfold gIx at p
       dsimp only at p
       cases e : atI ds i with
       | none => rw [e] at p; exact p.elim
       | some d =>
         rw [e] at p
         obtain ⟨v, e1, e2⟩ := l.atI e
         first
           | exact .inl ⟨_, _, _, _, rfl, rfl, .inl (.inl (S.ex _ _ h)), e1, Post.now p S e2⟩
           | exact .inl ⟨_, _, _, _, rfl, rfl, Evl.ex_l S.ex h, e1, Post.now p S e2⟩
           | exact .inr (.inl ⟨_, _, _, _, rfl, rfl, Evl.ex_t S.ex h, e1, Post.now p S e2⟩))
    | (rename_i z i
       obtain ⟨hc, p⟩ := ifB (P := fun z : VRes => Post X.K W Fo A σ (z.at ρ) Q) p id
       cases e : atI z.cps.toList i with
       | none => rw [e] at p; exact p.elim
       | some c => rw [e] at p; exact .inr (.inr ⟨_, _, _, rfl, rfl, hc, e, Post.now p S (.str _)⟩))
theorem de_ix {a b : Expr} {da db : DEn} {g : D → D → VRes} {pos : Pos} (ho : IxD X W g) (ha : DE X W a da) (hb : DE X W b db) (hs : PlainIx b) : DE X W (.Subscript a b pos) (dBin g da db) := by
  refine ⟨fun pins s σ H Q I h => ?_⟩
  have h' := rd_bin (R2' := fun σ x y H Q => ∃ Fo A ρ dx dy, Sat X.K Fo A H σ ρ ∧ Rep X.K A x dx ∧ Rep X.K A y dy ∧ Post X.K W Fo A σ ((g dx dy).at ρ) Q) h fun H Fo A ρ x y dx dy S r1 r2 p => ⟨Fo, A, ρ, dx, dy, S, r1, r2, p⟩
  exact PyProof.Rows.Subscript_ (binT ha hb I h' fun v u s2 x y H2 I2 rx ry ⟨Fo, A, ρ, dx, dy, S, r1, r2, p⟩ => ho a b pins s2 σ H2 Fo A ρ x y v u dx dy Q I2 rx ry S r1 r2 p (hs _ _))
/-- an item of slot i's own list -/
def dIxO (i : Nat) (db : DEn) : DEn := fun ρ => match ρ[i]? with
  | some (some (.own _)) => (db ρ).bind fun y ρ1 => match ρ1[i]?, y with
    | some (some (.own (.lst xs))), .int j => (match L2.atI xs j with
      | some d => .ok (.val d) ρ1
      | none => .bad)
    | _, _ => .bad
  | _ => .bad
theorem de_ixO {x : Str} {i : Nat} {b : Expr} {db : DEn} {pos px : Pos} (ha : PE X (.Name x px) (tVar i)) (hb : DE X W b db) (hs : PlainIx b) : DE X W (.Subscript (.Name x px) b pos) (dIxO i db) := by
  refine PE.weak (pe_ix ix_list ha hb hs) fun σ H Q ⟨Fo, A, ρ, S, p⟩ => ?_
  unfold dIxO at p
  cases hi : ρ[i]? with
  | none => rw [hi] at p; exact p.elim
  | some o =>
    rw [hi] at p
    cases o with
    | none => exact p.elim
    | some r =>
      cases r with
      | val d => exact p.elim
      | own m =>
        obtain ⟨a, o, e1, e2, e3, e4, e5⟩ := S.own i m hi
        refine ⟨.ref a, e1, Fo, A, ρ, S, post_bind p fun y dy A1 H1 ρ1 x1 S1 r1 p1 => ?_⟩
        cases hj : ρ1[i]? with
        | none => rw [hj] at p1; exact p1.elim
        | some o' =>
          rw [hj] at p1
          cases o' with
          | none => exact p1.elim
          | some r' =>
            cases r' with
            | val d => exact p1.elim
            | own m' =>
              cases m' with
              | lst xs =>
                cases r1 <;> first
                  | exact p1.elim
                  | (rename_i j
                     dsimp only at p1
                     cases e : L2.atI xs j with
                     | none => rw [e] at p1; exact p1.elim
                     | some d =>
                       rw [e] at p1
                       obtain ⟨b, u, f1, f2, f3, f4, f5⟩ := S1.own i _ hj
                       rw [e1] at f1; cases f1
                       cases f5 with
                       | lst l =>
                         obtain ⟨v, g1, g2⟩ := l.atI e
                         exact ⟨_, _, _, _, rfl, rfl, .inl (.inl f4), g1, Post.now p1 S1 g2⟩)
              | _ => exact p1.elim

/-! ### slices -/
theorem SlR.or {r r' : V → Option Int → Option Int → Hp → VK → Prop} (h : SlR X r) (h' : SlR X r') : SlR X (fun x l u H Q => r x l u H Q ∨ r' x l u H Q) := by
  intro pins s σ H x v vl vu l u sl Q I r1 r2 r3 r4 q
  rcases q with q | q
  · exact h pins s σ H x v vl vu l u sl Q I r1 r2 r3 r4 q
  · exact h' pins s σ H x v vl vu l u sl Q I r1 r2 r3 r4 q
def cutD (xs : List D) (lo hi : Option Int) : List D := (xs.drop (HT.sIx xs.length 0 lo)).take (HT.sIx xs.length xs.length hi - HT.sIx xs.length 0 lo)
def gSl (x : D) (lo hi : Option Int) : VRes := match x with
  | .lst xs => .ok (.own (.lst (cutD xs lo hi)))
  | .fix xs => .ok (.own (.lst (cutD xs lo hi)))
  | .str z => if z.length ≤ sizeLine then .ok (.val (.str (cutS z lo hi))) else .bad
  | _ => .bad
inductive PtD where
  | no
  | e (d : DEn)
def PtD.run : PtD → Slots → (Option Int → DEn) → ERes
  | .no, ρ, k => k none ρ
  | .e d, ρ, k => (d ρ).bind fun x ρ1 => match x with
    | .int i => k (some i) ρ1
    | _ => .bad
def dSl (da : DEn) (lo hi : PtD) : DEn := fun ρ => (da ρ).bind fun x ρ1 => lo.run ρ1 fun l ρ2 => hi.run ρ2 fun u ρ3 => (gSl x l u).at ρ3
def rdO (K : PySem.W.Frag) (W : WX) (d : PtD) : TO := fun σ H Q => ∃ Fo A ρ, Sat K Fo A H σ ρ ∧ ∃ k : Option Int → DEn, ∃ Q' : VK, Post K W Fo A σ (d.run ρ k) Q' ∧ ∀ o A' H' ρ', Ex A A' → Sat K Fo A' H' σ ρ' → Post K W Fo A' σ (k o ρ') Q' → Q o H'
def DO (X : Cx) (W : WX) (e : Option Expr) (d : PtD) : Prop := PO X e (rdO X.K W d)
theorem PO.weak {e : Option Expr} {t u : TO} (h : PO X e t) (w : ∀ σ H Q, u σ H Q → t σ H Q) : PO X e u := ⟨fun pins s σ H Q I q => h.run pins s σ H Q I (w _ _ _ q)⟩
theorem do_none : DO X W none .no := PO.weak po_none fun σ H Q ⟨Fo, A, ρ, S, k, Q', p, h⟩ => h none A H ρ (Evl.Ex.refl A) S p
theorem do_some {e : Expr} {d : DEn} (he : DE X W e d) : DO X W (some e) (.e d) := PO.weak (po_some he) fun σ H Q ⟨Fo, A, ρ, S, k, Q', p, h⟩ => ⟨Fo, A, ρ, S, post_bind p fun x dx A1 H1 ρ1 e1 S1 r1 p1 => by
  cases r1 <;> first
    | exact p1.elim
    | exact ⟨_, rfl, h _ A1 H1 ρ1 e1 S1 p1⟩⟩
theorem RepL.cut {K : PySem.W.Frag} {A : Hp} {vs : List V} {ds : List D} (h : RepL K A vs ds) (lo hi : Option Int) : RepL K A (cutV vs lo hi) (cutD ds lo hi) := by
  unfold cutV cutD
  rw [h.length]
  exact (h.drop _).take _
theorem de_sl {a : Expr} {da : DEn} {lo hi : Option Expr} {dl dh : PtD} {pos p2 : Pos} (ha : DE X W a da) (hl : DO X W lo dl) (hu : DO X W hi dh) : DE X W (.Subscript a (.Slice lo hi none p2) pos) (dSl da dl dh) := by
  refine PE.weak (pe_slice (SlR.or sl_list sl_str) ha hl hu) fun σ H Q ⟨Fo, A, ρ, S, p⟩ => ?_
  refine ⟨Fo, A, ρ, S, post_bind p fun x dx A1 H1 ρ1 e1 S1 r1 p1 => ⟨Fo, A1, ρ1, S1, _, Q, p1, fun l A2 H2 ρ2 e2 S2 p2 => ⟨Fo, A2, ρ2, S2, _, Q, p2, fun u A3 H3 ρ3 e3 S3 p3 => ?_⟩⟩⟩
  have r3 := r1.mn (e2.trans e3)
  cases r3 <;> first
    | exact p3.elim
    | (rename_i h l; exact .inl ⟨_, _, rfl, .inl (.inl (S3.ex _ _ h)), fun q hq => Post.newL p3 S3 hq (l.cut _ _)⟩)
    | (rename_i h l; exact .inl ⟨_, _, rfl, Evl.ex_l S3.ex h, fun q hq => Post.newL p3 S3 hq (l.cut _ _)⟩)
    | (obtain ⟨hc, p3⟩ := ifB (P := fun z : VRes => Post X.K W Fo A3 σ (z.at ρ3) Q) p3 id
       exact .inr ⟨_, rfl, hc, Post.now p3 S3 (.str _)⟩)
/-- xs[::-1] -/
def dRev (da : DEn) : DEn := dUn (fun x => match x with
  | .lst xs => .ok (.own (.lst xs.reverse))
  | .fix xs => .ok (.own (.lst xs.reverse))
  | _ => .bad) da
theorem de_rev {e : Expr} {d : DEn} {k : Nat} {p1 p2 p3 pos : Pos} (he : DE X W e d) : DE X W (.Subscript e (.Slice none none (some (.UnaryOp .USub (.Constant (.int 1) k p1) p2)) p3) pos) (dRev d) := by
  refine PE.weak (pe_revL he) fun σ H Q ⟨Fo, A, ρ, S, p⟩ => ⟨Fo, A, ρ, S, post_bind p fun x dx A1 H1 ρ1 e1 S1 r1 p1 => ?_⟩
  cases r1 <;> first
    | exact p1.elim
    | (rename_i h l; exact ⟨_, _, rfl, .inl (.inl (S1.ex _ _ h)), fun q hq => Post.newL p1 S1 hq l.reverse⟩)
    | (rename_i h l; exact ⟨_, _, rfl, Evl.ex_l S1.ex h, fun q hq => Post.newL p1 S1 hq l.reverse⟩)

/-! ### displays -/
def dsOf : List AV → Option (List D)
  | [] => some []
  | .d d :: r => (dsOf r).map (d :: ·)
  | .l _ :: _ => none
theorem RepAs.all {K : PySem.W.Frag} {A : Hp} {σ : L2.St} : ∀ {vs : List V} {as : List AV} {ds : List D}, RepAs K A σ vs as → dsOf as = some ds → RepL K A vs ds
  | _, _, _, .nil, e => by cases e; exact .nil
  | _, _, _, .d h r, e => by
    obtain ⟨ds, e1, e2⟩ := Option.map_eq_some_iff.mp (show (dsOf _).map _ = _ from e)
    subst e2
    exact .cons h (r.all e1)
  | _, _, _, .l _ _, e => by cases e
def dAll (g : List D → VRes) (args : List Arg) : DEn := fun ρ => match runArgs args ρ with
  | .ok as ρ1 => (match dsOf as with
    | some ds => (g ds).at ρ1
    | none => .bad)
  | .exc x ρ1 => .exc x ρ1
  | .bad => .bad
theorem post_all {g : List D → VRes} {args : List Arg} {K : PySem.W.Frag} {Fo A : Hp} {σ : L2.St} {ρ : Slots} {Q : VK} {Q' : List V → Hp → Prop} (p : Post K W Fo A σ (dAll g args ρ) Q)
    (h : ∀ vs ds A' H' ρ', Ex A A' → Sat K Fo A' H' σ ρ' → RepL K A' vs ds → Post K W Fo A' σ ((g ds).at ρ') Q → Q' vs H') : PostA K W Fo A σ (runArgs args ρ) Q' := by
  unfold dAll at p
  cases e : runArgs args ρ with
  | bad => rw [e] at p; exact p
  | exc x ρ1 => rw [e] at p; exact p
  | ok as ρ1 =>
    rw [e] at p
    replace p : Post K W Fo A σ (match dsOf as with
      | some ds => (g ds).at ρ1
      | none => .bad) Q := p
    cases e2 : dsOf as with
    | none => rw [e2] at p; exact p.elim
    | some ds =>
      rw [e2] at p
      exact fun vs A' H' e' S' ra => h vs ds A' H' ρ1 e' S' (ra.all e2) (p.ext e')
def gLst (ds : List D) : VRes := if ds.length ≤ sizeLine then .ok (.own (.lst ds)) else .bad
def gTup (ds : List D) : VRes := if ds.length ≤ sizeLine then .ok (.val (.tup ds)) else .bad
theorem de_lst {es : List Expr} {args : List Arg} {pos : Pos} (h : DA X W es args) : DE X W (.List es pos) (dAll gLst args) := PE.weak (pe_lst h) fun σ H Q ⟨Fo, A, ρ, S, p⟩ => ⟨Fo, A, ρ, S, post_all p fun vs ds A' H' ρ' e S' r p' => by
  obtain ⟨hc, p'⟩ := ifB (P := fun z : VRes => Post X.K W Fo A' σ (z.at ρ') Q) p' id
  exact ⟨by rw [r.length]; exact hc, fun q hq => Post.newL p' S' hq r⟩⟩
theorem de_tup {x1} {es : List Expr} {args : List Arg} {pos : Pos} (h : DA X W es args) : DE X W (.Tuple es x1 pos) (dAll gTup args) := PE.weak (pe_tup h) fun σ H Q ⟨Fo, A, ρ, S, p⟩ => ⟨Fo, A, ρ, S, post_all p fun vs ds A' H' ρ' e S' r p' => by
  obtain ⟨hc, p'⟩ := ifB (P := fun z : VRes => Post X.K W Fo A' σ (z.at ρ') Q) p' id
  exact ⟨by rw [r.length]; exact hc, fun q hq => Post.newT p' S' hq r⟩⟩
end
end DL

set_option maxRecDepth 100000
set_option maxHeartbeats 2000000
/-! DL4: tests, calls. -/
namespace DL
open PySem PySem.Spec L2
open Evl (Ex)

def DT (X : Cx) (W : WX) (e : Expr) (d : DEn) : Prop := PT X e (tB (rd X.K W d))
def DW (X : Cx) (W : WX) (e : Expr) (d : DEn) : Prop := PW X e (tB (rd X.K W d))
theorem PT.weak {X : Cx} {e : Expr} {t u : TT} (h : PT X e t) (w : ∀ σ H Q, u σ H Q → t σ H Q) : PT X e u := ⟨fun pins s σ H Q I q => h.run pins s σ H Q I (w _ _ _ q)⟩
theorem PW.weak {X : Cx} {e : Expr} {t u : TT} (h : PW X e t) (w : ∀ σ H Q, u σ H Q → t σ H Q) : PW X e u := ⟨fun wh pins s σ H Q I q => h.run wh pins s σ H Q I (w _ _ _ q)⟩
def dNot (da : DEn) : DEn := fun ρ => (da ρ).bind fun x ρ1 => match x with
  | .bl b => .ok (.val (.bl !b)) ρ1
  | _ => .bad
def dAnd (da db : DEn) : DEn := fun ρ => (da ρ).bind fun x ρ1 => match x with
  | .bl true => db ρ1
  | .bl false => .ok (.val (.bl false)) ρ1
  | _ => .bad
def dOr (da db : DEn) : DEn := fun ρ => (da ρ).bind fun x ρ1 => match x with
  | .bl true => .ok (.val (.bl true)) ρ1
  | .bl false => db ρ1
  | _ => .bad
def dIf (dc da db : DEn) : DEn := fun ρ => (dc ρ).bind fun x ρ1 => match x with
  | .bl true => da ρ1
  | .bl false => db ρ1
  | _ => .bad
section
variable {X : Cx} {W : WX} {a b c : Expr} {rest : List Expr} {da db dc : DEn} {pos : Pos}
theorem dt_of (h : DE X W a da) (he : ∀ whole, isTrue a X.env whole = (do let v ← whole; standAt a.pos; holding [v] (truthy v)) := by intro _; rfl) : DT X W a da := pt_val h he
theorem bl_of {K : PySem.W.Frag} {A : Hp} {v : V} {b : Bool} (h : Rep K A v (.bl b)) : v = .bl b := by cases h; rfl
theorem dt_not (ha : DT X W a da) : DT X W (.UnaryOp .Not a pos) (dNot da) := PT.weak (pt_not ha) fun σ H Q ⟨Fo, A, ρ, S, p⟩ => ⟨Fo, A, ρ, S, post_bind p fun x dx A1 H1 ρ1 e1 S1 r1 p1 => by
  cases r1 <;> first
    | exact p1.elim
    | (obtain ⟨b, e, q⟩ := Post.now p1 S1 (.bl _); cases e; exact ⟨_, rfl, q⟩)⟩
theorem dw_and1 (ha : DT X W a da) : DW X W (.BoolOp .And [a] pos) da := pw_and1 ha
theorem dw_or1 (ha : DT X W a da) : DW X W (.BoolOp .Or [a] pos) da := pw_or1 ha
theorem dw_and (ha : DT X W a da) (hb : DW X W (.BoolOp .And (b :: rest) pos) db) : DW X W (.BoolOp .And (a :: b :: rest) pos) (dAnd da db) := PW.weak (pw_and ha hb) fun σ H Q ⟨Fo, A, ρ, S, p⟩ => ⟨Fo, A, ρ, S, post_bind p fun x dx A1 H1 ρ1 e1 S1 r1 p1 => by
  cases r1 <;> first
    | exact p1.elim
    | (rename_i b
       cases b with
       | true => exact ⟨true, rfl, iteT ⟨Fo, A1, ρ1, S1, p1⟩⟩
       | false =>
         obtain ⟨b, e, q⟩ := Post.now p1 S1 (.bl _); cases e
         exact ⟨false, rfl, iteF q⟩)⟩
theorem dw_or (ha : DT X W a da) (hb : DW X W (.BoolOp .Or (b :: rest) pos) db) : DW X W (.BoolOp .Or (a :: b :: rest) pos) (dOr da db) := PW.weak (pw_or ha hb) fun σ H Q ⟨Fo, A, ρ, S, p⟩ => ⟨Fo, A, ρ, S, post_bind p fun x dx A1 H1 ρ1 e1 S1 r1 p1 => by
  cases r1 <;> first
    | exact p1.elim
    | (rename_i b
       cases b with
       | true =>
         obtain ⟨b, e, q⟩ := Post.now p1 S1 (.bl _); cases e
         exact ⟨true, rfl, iteT q⟩
       | false => exact ⟨false, rfl, iteF ⟨Fo, A1, ρ1, S1, p1⟩⟩)⟩
theorem dt_bool {e : Expr} {d : DEn} (h : DW X W e d) : DT X W e d := PW.pt h
/-- as values -/
theorem de_one {op} (h : DE X W a da) : DE X W (.BoolOp op [a] pos) da := pe_one h
theorem de_and (ha : DE X W a da) (hb : DE X W (.BoolOp .And (b :: rest) pos) db) : DE X W (.BoolOp .And (a :: b :: rest) pos) (dAnd da db) := PE.weak (pe_and ha hb) fun σ H Q ⟨Fo, A, ρ, S, p⟩ => ⟨Fo, A, ρ, S, post_bind p fun x dx A1 H1 ρ1 e1 S1 r1 p1 => by
  cases r1 <;> first
    | exact p1.elim
    | (rename_i b
       cases b with
       | true => exact ⟨true, rfl, iteT ⟨Fo, A1, ρ1, S1, p1⟩⟩
       | false => exact ⟨false, rfl, iteF (Post.now p1 S1 (.bl _))⟩)⟩
theorem de_or (ha : DE X W a da) (hb : DE X W (.BoolOp .Or (b :: rest) pos) db) : DE X W (.BoolOp .Or (a :: b :: rest) pos) (dOr da db) := PE.weak (pe_or ha hb) fun σ H Q ⟨Fo, A, ρ, S, p⟩ => ⟨Fo, A, ρ, S, post_bind p fun x dx A1 H1 ρ1 e1 S1 r1 p1 => by
  cases r1 <;> first
    | exact p1.elim
    | (rename_i b
       cases b with
       | true => exact ⟨true, rfl, iteT (Post.now p1 S1 (.bl _))⟩
       | false => exact ⟨false, rfl, iteF ⟨Fo, A1, ρ1, S1, p1⟩⟩)⟩
theorem de_not (ha : DE X W a da) : DE X W (.UnaryOp .Not a pos) (dNot da) := PE.weak (pe_not ha) fun σ H Q ⟨Fo, A, ρ, S, p⟩ => ⟨Fo, A, ρ, S, post_bind p fun x dx A1 H1 ρ1 e1 S1 r1 p1 => by
  cases r1 <;> first
    | exact p1.elim
    | exact ⟨_, rfl, Post.now p1 S1 (.bl _)⟩⟩
theorem de_if (hc : DT X W c dc) (ha : DE X W a da) (hb : DE X W b db) : DE X W (.IfExp c a b pos) (dIf dc da db) := PE.weak (pe_ifExp hc ha hb) fun σ H Q ⟨Fo, A, ρ, S, p⟩ => ⟨Fo, A, ρ, S, post_bind p fun x dx A1 H1 ρ1 e1 S1 r1 p1 => by
  cases r1 <;> first
    | exact p1.elim
    | (rename_i b
       cases b with
       | true => exact ⟨true, rfl, iteT ⟨Fo, A1, ρ1, S1, p1⟩⟩
       | false => exact ⟨false, rfl, iteF ⟨Fo, A1, ρ1, S1, p1⟩⟩)⟩
/-- a <= b <= c over ints (b once) -/
def dChain (p q : Int → Int → Bool) (da db dc : DEn) : DEn := fun ρ => (da ρ).bind fun x ρ1 => (db ρ1).bind fun y ρ2 => match x, y with
  | .int i, .int j => if p i j then ((dc ρ2).bind fun z ρ3 => match z with
    | .int k => .ok (.val (.bl (q j k))) ρ3
    | _ => .bad) else .ok (.val (.bl false)) ρ2
  | _, _ => .bad
theorem de_chain {op op' : CmpOp} {p q : Int → Int → Bool} (ho : OpR X (compareOp op) (rI0 fun i j => .bl (p i j))) (ho' : OpR X (compareOp op') (rI0 fun i j => .bl (q i j))) (ha : DE X W a da) (hb : DE X W b db) (hc : DE X W c dc)
    (hm : lastMarks [op, op'] [b, c] = false := by with_unfolding_all rfl) : DE X W (.Compare a [op, op'] [b, c] pos) (dChain p q da db dc) := PE.weak (pe_chain ho ho' ha hb hc hm) fun σ H Q ⟨Fo, A, ρ, S, pp⟩ =>
  ⟨Fo, A, ρ, S, post_bind pp fun x dx A1 H1 ρ1 e1 S1 r1 p1 => ⟨Fo, A1, ρ1, S1, post_bind p1 fun y dy A2 H2 ρ2 e2 S2 r2 p2 => by
    cases r1 <;> cases r2 <;> first
      | exact p2.elim
      | (rename_i i j
         refine ⟨i, j, rfl, rfl, p i j, rfl, ?_⟩
         replace p2 : Post X.K W Fo A2 σ (if p i j then ((dc ρ2).bind fun z ρ3 => match z with
           | .int k => .ok (.val (.bl (q j k))) ρ3
           | _ => .bad) else .ok (.val (.bl false)) ρ2) Q := p2
         cases hp : p i j with
         | true =>
           rw [hp] at p2
           refine iteT ⟨Fo, A2, ρ2, S2, post_bind p2 fun z dz A3 H3 ρ3 e3 S3 r3 p3 => ?_⟩
           cases r3 <;> first
             | exact p3.elim
             | exact ⟨j, _, rfl, rfl, Post.now p3 S3 (.bl _)⟩
         | false =>
           rw [hp] at p2
           exact iteF (Post.now p2 S2 (.bl _)))⟩⟩
end

/-! ### calls of built-ins -/
section
variable {X : Cx} {W : WX} {x : Str} {p pos : Pos} {e : Expr} {es : List Expr} {args : List Arg} {id T : String} {r : List V → Hp → VK → Prop} {g : List D → VRes}
theorem post_call {K : PySem.W.Frag} {t : Sp} {σ : L2.St} {H : Hp} {Q : VK} (h : rd K W (dAll g args) σ H Q)
    (k : ∀ vs ds (Fo A H : Hp) ρ, Sat K Fo A H σ ρ → RepL K A vs ds → Post K W Fo A σ ((g ds).at ρ) Q → r vs H Q) : tCB r (rdA K W args) σ H Q := by
  obtain ⟨Fo, A, ρ, S, p⟩ := h
  exact ⟨Fo, A, ρ, S, post_all p fun vs ds A' H' ρ' e' S' ra p' => k vs ds Fo A' H' ρ' S' ra p'⟩
theorem de_callB (hc : CallR X (.builtin id) r) (hg : Gl X x) (hm : X.mg x = none) (hv : bootBuiltins x = some (.builtin id)) (ha : DA X W (e :: es) args)
    (k : ∀ σ vs ds (Fo A H : Hp) ρ (Q : VK), Sat X.K Fo A H σ ρ → RepL X.K A vs ds → Post X.K W Fo A σ ((g ds).at ρ) Q → r vs H Q) (hn : x ≠ "__name__" := by decide) (hdb : (x == ("__debug__" : Str)) = false := by decide)
    (he : starEach (e :: es) X.env = (false, eval e X.env) :: starEach es X.env := by rfl) (hpl : (backTo pos (starEach es X.env)).any (·.1) = false := by rfl) : DE X W (.Call (.Name x p) (e :: es) [] pos) (dAll g args) :=
  PE.weak (pe_callB hc hg hm hv ha hn hdb he hpl) fun σ H Q h => post_call (t := fun _ _ _ _ => True) h fun vs ds Fo A H ρ S ra p => k σ vs ds Fo A H ρ Q S ra p
theorem de_callTy (hc : CallR X (.type T) r) (hg : Gl X x) (hm : X.mg x = none) (hv : bootBuiltins x = some (.type T)) (ha : DA X W (e :: es) args)
    (k : ∀ σ vs ds (Fo A H : Hp) ρ (Q : VK), Sat X.K Fo A H σ ρ → RepL X.K A vs ds → Post X.K W Fo A σ ((g ds).at ρ) Q → r vs H Q) (hn : x ≠ "__name__" := by decide) (hdb : (x == ("__debug__" : Str)) = false := by decide)
    (he : starEach (e :: es) X.env = (false, eval e X.env) :: starEach es X.env := by rfl) (hpl : (backTo pos (starEach es X.env)).any (·.1) = false := by rfl) : DE X W (.Call (.Name x p) (e :: es) [] pos) (dAll g args) :=
  PE.weak (pe_callTy hc hg hm hv ha hn hdb he hpl) fun σ H Q h => post_call (t := fun _ _ _ _ => True) h fun vs ds Fo A H ρ S ra p => k σ vs ds Fo A H ρ Q S ra p
/-- len -/
def gLen : List D → VRes
  | [.lst xs] => .ok (.val (.int xs.length))
  | [.fix xs] => .ok (.val (.int xs.length))
  | [.tup xs] => .ok (.val (.int xs.length))
  | [.str z] => if z.length ≤ sizeLine then .ok (.val (.int z.length)) else .bad
  | _ => .bad
theorem k_len : ∀ σ vs ds (Fo A H : Hp) ρ (Q : VK), Sat X.K Fo A H σ ρ → RepL X.K A vs ds → Post X.K W Fo A σ ((gLen ds).at ρ) Q → ∃ y n, vs = [y] ∧ LenV X.K y H n ∧ Q (.int n) H := fun σ vs ds Fo A H ρ Q S ra p => by
  cases ra with
  | nil => exact p.elim
  | cons h r =>
    cases r with
    | cons _ _ => cases h <;> exact p.elim
    | nil =>
      cases h <;> first
        | exact p.elim
        | (rename_i h l; refine ⟨_, _, rfl, .inl ⟨_, .inl (.inl (S.ex _ _ h)), rfl⟩, ?_⟩; rw [l.length]; exact Post.now p S (.int _))
        | (rename_i h l; refine ⟨_, _, rfl, .inl ⟨_, Evl.ex_l S.ex h, rfl⟩, ?_⟩; rw [l.length]; exact Post.now p S (.int _))
        | (rename_i h l; refine ⟨_, _, rfl, .inr ⟨_, Evl.ex_t S.ex h, rfl⟩, ?_⟩; rw [l.length]; exact Post.now p S (.int _))
        | (obtain ⟨hc, p⟩ := ifB (P := fun z : VRes => Post X.K W Fo A σ (z.at ρ) Q) p id
           exact ⟨_, _, rfl, ⟨hc, rfl⟩, Post.now p S (.int _)⟩)
def gMax2 : List D → VRes
  | [.int i, .int j] => .ok (.val (.int (if j > i then j else i)))
  | _ => .bad
def gMin2 : List D → VRes
  | [.int i, .int j] => .ok (.val (.int (if j < i then j else i)))
  | _ => .bad
def gInt : List D → VRes
  | [.int i] => .ok (.val (.int i))
  | [.bl k] => .ok (.val (.int (if k then 1 else 0)))
  | [.str a] => (match PySem.intText? a with
    | some n => if a.length ≤ 640 then .ok (.val (.int n)) else .bad
    | none => .bad)
  | _ => .bad
theorem k_2I {g : List D → VRes} {f : Int → Int → Int} (hg : ∀ ds r, g ds = .ok r → ∃ i j, ds = [.int i, .int j] ∧ r = .val (.int (f i j))) (hb : ∀ ds x, g ds ≠ .exc x) : ∀ σ vs ds (Fo A H : Hp) ρ (Q : VK), Sat X.K Fo A H σ ρ → RepL X.K A vs ds → Post X.K W Fo A σ ((g ds).at ρ) Q →
    ∃ i j, vs = [.int i, .int j] ∧ Q (.int (f i j)) H := fun σ vs ds Fo A H ρ Q S ra p => by
  cases e : g ds with
  | bad => rw [e] at p; exact p.elim
  | exc x => exact absurd e (hb ds x)
  | ok r =>
    obtain ⟨i, j, rfl, rfl⟩ := hg ds r e
    rw [e] at p
    cases ra with | cons h1 r => cases r with | cons h2 r => cases r with | nil => cases h1; cases h2; exact ⟨i, j, rfl, Post.now p S (.int _)⟩
theorem k_max2 : ∀ σ vs ds (Fo A H : Hp) ρ (Q : VK), Sat X.K Fo A H σ ρ → RepL X.K A vs ds → Post X.K W Fo A σ ((gMax2 ds).at ρ) Q → ∃ i j, vs = [.int i, .int j] ∧ Q (.int (if j > i then j else i)) H :=
  k_2I (fun ds r h => by unfold gMax2 at h; split at h <;> cases h; exact ⟨_, _, rfl, rfl⟩) (fun ds x h => by unfold gMax2 at h; split at h <;> cases h)
theorem k_min2 : ∀ σ vs ds (Fo A H : Hp) ρ (Q : VK), Sat X.K Fo A H σ ρ → RepL X.K A vs ds → Post X.K W Fo A σ ((gMin2 ds).at ρ) Q → ∃ i j, vs = [.int i, .int j] ∧ Q (.int (if j < i then j else i)) H :=
  k_2I (fun ds r h => by unfold gMin2 at h; split at h <;> cases h; exact ⟨_, _, rfl, rfl⟩) (fun ds x h => by unfold gMin2 at h; split at h <;> cases h)
theorem k_int : ∀ σ vs ds (Fo A H : Hp) ρ (Q : VK), Sat X.K Fo A H σ ρ → RepL X.K A vs ds → Post X.K W Fo A σ ((gInt ds).at ρ) Q → ((∃ i, vs = [.int i] ∧ Q (.int i) H) ∨ ∃ k, vs = [.bl k] ∧ Q (.int (if k then 1 else 0)) H) ∨ ∃ a n, vs = [.str a] ∧ PySem.intText? a = some n ∧ a.length ≤ 640 ∧ Q (.int n) H := fun σ vs ds Fo A H ρ Q S ra p => by
  cases ra with
  | nil => exact p.elim
  | cons h r =>
    cases r with
    | cons _ _ => cases h <;> exact p.elim
    | nil =>
      cases h <;> first
        | exact p.elim
        | exact .inl (.inl ⟨_, rfl, Post.now p S (.int _)⟩)
        | exact .inl (.inr ⟨_, rfl, Post.now (d := .int _) p S (.int _)⟩)
        | (rename_i a
           unfold gInt at p
           dsimp only at p
           cases e : PySem.intText? a with
           | none => rw [e] at p; exact p.elim
           | some n =>
             rw [e] at p
             obtain ⟨hc, p⟩ := ifB (P := fun z : VRes => Post X.K W Fo A σ (z.at ρ) Q) p (fun z => z)
             exact .inr ⟨a, n, rfl, e, hc, Post.now p S (.int _)⟩)
/-- list(xs) of a list or tuple -/
def gList : List D → VRes
  | [.lst xs] => .ok (.own (.lst xs))
  | [.fix xs] => .ok (.own (.lst xs))
  | [.tup xs] => .ok (.own (.lst xs))
  | _ => .bad
theorem k_list : ∀ σ vs ds (Fo A H : Hp) ρ (Q : VK), Sat X.K Fo A H σ ρ → RepL X.K A vs ds → Post X.K W Fo A σ ((gList ds).at ρ) Q → ∃ p ys, vs = [.ref p] ∧ (SqL X.K H p ys ∨ SqT X.K H p ys) ∧ ∀ l, H l = none → Q (.ref l) (upd H l (.lst ys)) := fun σ vs ds Fo A H ρ Q S ra p => by
  cases ra with
  | nil => exact p.elim
  | cons h r =>
    cases r with
    | cons _ _ => cases h <;> exact p.elim
    | nil =>
      cases h <;> first
        | exact p.elim
        | (rename_i h l; exact ⟨_, _, rfl, .inl (.inl (.inl (S.ex _ _ h))), fun q hq => Post.newL p S hq l⟩)
        | (rename_i h l; exact ⟨_, _, rfl, .inl (Evl.ex_l S.ex h), fun q hq => Post.newL p S hq l⟩)
        | (rename_i h l; exact ⟨_, _, rfl, .inr (Evl.ex_t S.ex h), fun q hq => Post.newL p S hq l⟩)
/-- all, any of truth values; sum of ints -/
def blsOf : List D → Option (List Bool)
  | [] => some []
  | .bl b :: r => (blsOf r).map (b :: ·)
  | _ => none
def intsOf : List D → Option (List Int)
  | [] => some []
  | .int b :: r => (intsOf r).map (b :: ·)
  | _ => none
theorem RepL.bls {K : PySem.W.Frag} {A : Hp} : ∀ {vs : List V} {ds : List D} {bs : List Bool}, RepL K A vs ds → blsOf ds = some bs → vs = bs.map V.bl
  | _, _, _, .nil, e => by cases e; rfl
  | _, _, _, .cons h r, e => by
    cases h <;> first
      | cases e
      | (obtain ⟨bs, e1, e2⟩ := Option.map_eq_some_iff.mp (show (blsOf _).map _ = _ from e)
         subst e2
         rw [r.bls e1] <;> rfl)
theorem RepL.intsV {K : PySem.W.Frag} {A : Hp} : ∀ {vs : List V} {ds : List D} {bs : List Int}, RepL K A vs ds → intsOf ds = some bs → vs = bs.map V.int
  | _, _, _, .nil, e => by cases e; rfl
  | _, _, _, .cons h r, e => by
    cases h <;> first
      | cases e
      | (obtain ⟨bs, e1, e2⟩ := Option.map_eq_some_iff.mp (show (intsOf _).map _ = _ from e)
         subst e2
         rw [r.intsV e1] <;> rfl)
def gAll : List D → VRes
  | [.lst xs] => match blsOf xs with
    | some bs => .ok (.val (.bl (bs.all _root_.id)))
    | none => .bad
  | _ => .bad
def gAny : List D → VRes
  | [.lst xs] => match blsOf xs with
    | some bs => .ok (.val (.bl (bs.any _root_.id)))
    | none => .bad
  | _ => .bad
def gSum : List D → VRes
  | [.lst xs] => match intsOf xs with
    | some bs => .ok (.val (.int bs.sum))
    | none => .bad
  | _ => .bad
theorem k_all : ∀ σ vs ds (Fo A H : Hp) ρ (Q : VK), Sat X.K Fo A H σ ρ → RepL X.K A vs ds → Post X.K W Fo A σ ((gAll ds).at ρ) Q → rAll X.K vs H Q := fun σ vs ds Fo A H ρ Q S ra p => by
  cases ra with
  | nil => exact p.elim
  | cons h r =>
    cases r with
    | cons _ _ => cases h <;> exact p.elim
    | nil =>
      cases h <;> first
        | exact p.elim
        | (rename_i a xs ds h l
           unfold gAll at p
           dsimp only at p
           cases e : blsOf ds with
           | none => rw [e] at p; exact p.elim
           | some bs => rw [e] at p; exact ⟨a, bs, rfl, .inl (.inl (by rw [← l.bls e]; exact S.ex _ _ h)), Post.now p S (.bl _)⟩)
theorem k_any : ∀ σ vs ds (Fo A H : Hp) ρ (Q : VK), Sat X.K Fo A H σ ρ → RepL X.K A vs ds → Post X.K W Fo A σ ((gAny ds).at ρ) Q → rAny X.K vs H Q := fun σ vs ds Fo A H ρ Q S ra p => by
  cases ra with
  | nil => exact p.elim
  | cons h r =>
    cases r with
    | cons _ _ => cases h <;> exact p.elim
    | nil =>
      cases h <;> first
        | exact p.elim
        | (rename_i a xs ds h l
           unfold gAny at p
           dsimp only at p
           cases e : blsOf ds with
           | none => rw [e] at p; exact p.elim
           | some bs => rw [e] at p; exact ⟨a, bs, rfl, .inl (.inl (by rw [← l.bls e]; exact S.ex _ _ h)), Post.now p S (.bl _)⟩)
theorem k_sum : ∀ σ vs ds (Fo A H : Hp) ρ (Q : VK), Sat X.K Fo A H σ ρ → RepL X.K A vs ds → Post X.K W Fo A σ ((gSum ds).at ρ) Q → rSum X.K vs H Q := fun σ vs ds Fo A H ρ Q S ra p => by
  cases ra with
  | nil => exact p.elim
  | cons h r =>
    cases r with
    | cons _ _ => cases h <;> exact p.elim
    | nil =>
      cases h <;> first
        | exact p.elim
        | (rename_i a xs ds h l
           unfold gSum at p
           dsimp only at p
           cases e : intsOf ds with
           | none => rw [e] at p; exact p.elim
           | some bs => rw [e] at p; exact ⟨a, bs, rfl, .inl (.inl (by rw [← l.intsV e]; exact S.ex _ _ h)), Post.now p S (.int _)⟩)
end
end DL

set_option maxRecDepth 100000
set_option maxHeartbeats 2000000
/-! DL5: calls of defs, methods, classes; fields. -/
namespace DL
open PySem PySem.Spec L2
open Evl (Ex)

section
variable {X : Cx} {W : WX} {x : Str} {p pos : Pos} {e : Expr} {es : List Expr} {args : List Arg} {k n : Nat} {f : Addr} {c : DEn}
theorem rdA_call {K : PySem.W.Frag} {σ : L2.St} {H : Hp} {Q : VK} (hn : args.length = n) (h : rd K W (dCall c args) σ H Q) : rdA K W args σ H fun vs H1 => spD K n c vs H1 Q (WE W σ) := by
  obtain ⟨Fo, A, ρ, S, p⟩ := h
  refine ⟨Fo, A, ρ, S, ?_⟩
  unfold dCall at p
  cases ha : runArgs args ρ with
  | bad => rw [ha] at p; exact p
  | exc x ρ1 => rw [ha] at p; exact p
  | ok as ρ1 => rw [ha] at p; exact fun vs A' H' e S' ra => sp_call S' ra ((runArgs_len ha).trans hn) (Post.ext p e)
/-- f(e, ..) -/
theorem de_call (F : FdOk X.prog X.w X.K X.mg X.base k f n c) (hr : Room k X.A) (hg : Gl X x) (hm : X.mg x = some (.ref f)) (tk : Takes X W) (ha : DA X W (e :: es) args) (hn : args.length = n)
    (hdb : (x == ("__debug__" : Str)) = false := by decide) (he : starEach (e :: es) X.env = (false, eval e X.env) :: starEach es X.env := by rfl) (hpl : (backTo pos (starEach es X.env)).any (·.1) = false := by rfl) :
    DE X W (.Call (.Name x p) (e :: es) [] pos) (dCall c args) := by
  obtain ⟨fd, ps, F, hb, hk⟩ := F
  exact PE.weak (pe_callS F hr hg hm hk hb (fun σ => passAt tk σ) ha hdb he hpl) fun σ H Q h => rdA_call hn h
/-- f() -/
theorem de_call0 (F : FdOk X.prog X.w X.K X.mg X.base k f 0 c) (hr : Room k X.A) (hg : Gl X x) (hm : X.mg x = some (.ref f)) (tk : Takes X W)
    (hdb : (x == ("__debug__" : Str)) = false := by decide) : DE X W (.Call (.Name x p) [] [] pos) (dCall c []) := by
  obtain ⟨fd, ps, F, hb, hk⟩ := F
  refine ⟨fun pins s σ H Q I h => ?_⟩
  refine wpAny_Call_Name_kw (ld_glob I hg hm ?_ hdb)
  have h' := rdA_call (n := 0) (args := []) rfl h
  obtain ⟨Fo, A, ρ, S, q⟩ := h'
  exact PySem.W.callWith_K0 I.kIn hk (run_fnS (us := []) F hr hb (passAt tk σ) I .nil (q [] A H (Evl.Ex.refl A) S .nil))

/-! ### a new instance -/
def makeAt (C : String) (c : DEn) (as : List AV) (ρ : Slots) : ERes := match callAt c (.l ρ.length :: as) (ρ ++ [some (.own (.ins C [] []))]) with
  | .ok (.val .non) ρ2 => (match ρ2[ρ.length]? with
    | some (some (.own m)) => .ok (.own m) (ρ2.take ρ.length)
    | _ => .bad)
  | .ok _ _ => .bad
  | .exc x ρ2 => .exc x (ρ2.take ρ.length)
  | .bad => .bad
def dMake (C : String) (c : DEn) (args : List Arg) : DEn := fun ρ => match runArgs args ρ with
  | .ok as ρ1 => makeAt C c as ρ1
  | .exc x ρ1 => .exc x ρ1
  | .bad => .bad
section
variable {K : PySem.W.Frag} {Fo A A' H H' : Hp} {σ : L2.St} {ρ : Slots} {vs : List V} {as : List AV}
theorem Sat.pop {v : Option V} (S : Sat K Fo A H (σ ++ [v]) ρ) : Sat K Fo A H σ (ρ.take σ.length) := by
  have hl : ρ.length = σ.length + 1 := by rw [← S.len, List.length_append]; rfl
  have tk : ∀ (i : Nat) (r : Option R), (ρ.take σ.length)[i]? = some r → ρ[i]? = some r ∧ (σ ++ [v])[i]? = σ[i]? := fun i r h => by
    rw [List.getElem?_take] at h
    split at h
    · rename_i hi; exact ⟨h, List.getElem?_append_left hi⟩
    · cases h
  refine ⟨S.ex, S.fo, by rw [List.length_take]; omega, fun i d h => ?_, fun i m h => ?_, fun i j m m' a h1 h2 h3 h4 => ?_⟩
  · obtain ⟨q1, q2⟩ := tk i _ h
    obtain ⟨v, e1, e2⟩ := S.val i d q1
    exact ⟨v, q2 ▸ e1, e2⟩
  · obtain ⟨q1, q2⟩ := tk i _ h
    obtain ⟨a, o, e1, e⟩ := S.own i m q1
    exact ⟨a, o, q2 ▸ e1, e⟩
  · obtain ⟨q1, q2⟩ := tk i _ h1
    obtain ⟨q3, q4⟩ := tk j _ h2
    exact S.inj i j m m' a q1 q3 (q2.trans h3) (q4.trans h4)
theorem Sat.push {a : Addr} {o : HO} {m : M} (S : Sat K Fo A H σ ρ) (r : RepR K Fo A H σ ρ (.ref a) (.own m)) : Sat K Fo A H (σ ++ [some (.ref a)]) (ρ ++ [some (.own m)]) := by
  cases r with
  | own h1 h2 h3 h4 h5 =>
    have at_ : ∀ (i : Nat) (r : Option R), (ρ ++ [some (.own m)])[i]? = some r → (ρ[i]? = some r ∧ (σ ++ [some (V.ref a)])[i]? = σ[i]?) ∨ (i = σ.length ∧ r = some (.own m)) := fun i r h => by
      by_cases hi : i < ρ.length
      · rw [List.getElem?_append_left hi] at h
        exact .inl ⟨h, List.getElem?_append_left (by rw [S.len]; exact hi)⟩
      · rw [List.getElem?_append_right (by omega)] at h
        have : i - ρ.length = 0 := by
          by_cases z : i - ρ.length = 0
          · exact z
          · rw [List.getElem?_eq_none (by simp; omega)] at h; cases h
        rw [this] at h
        exact .inr ⟨by rw [S.len]; omega, (Option.some.inj h).symm⟩
    have last : (σ ++ [some (V.ref a)])[σ.length]? = some (some (V.ref a)) := by rw [List.getElem?_append_right (Nat.le_refl _)]; simp
    refine ⟨S.ex, S.fo, by rw [List.length_append, List.length_append, S.len]; rfl, fun i d h => ?_, fun i m' h => ?_, fun i j m1 m2 b q1 q2 q3 q4 => ?_⟩
    · rcases at_ i _ h with ⟨g1, g2⟩ | ⟨_, g⟩
      · obtain ⟨v, e1, e2⟩ := S.val i d g1
        exact ⟨v, g2.trans e1, e2⟩
      · cases g
    · rcases at_ i _ h with ⟨g1, g2⟩ | ⟨g1, g⟩
      · obtain ⟨b, u, e1, e⟩ := S.own i m' g1
        exact ⟨b, u, g2.trans e1, e⟩
      · cases g; subst g1
        exact ⟨a, _, last, h1, h2, h3, h4⟩
    · rcases at_ i _ q1 with ⟨g1, g2⟩ | ⟨g1, g⟩
      · rcases at_ j _ q2 with ⟨g3, g4⟩ | ⟨g3, g'⟩
        · exact S.inj i j m1 m2 b g1 g3 (g2.symm.trans q3) (g4.symm.trans q4)
        · subst g3
          rw [last] at q4; cases q4
          exact absurd (g2.symm.trans q3) (h5 i m1 g1)
      · subst g1
        rw [last] at q3; cases q3
        rcases at_ j _ q2 with ⟨g3, g4⟩ | ⟨g3, g'⟩
        · exact absurd (g4.symm.trans q4) (h5 j m2 g3)
        · exact g3.symm
theorem RepAs.push {v : Option V} : ∀ {vs : List V} {as : List AV}, RepAs K A σ vs as → RepAs K A (σ ++ [v]) vs as
  | _, _, .nil => .nil
  | _, _, .d h r => .d h r.push
  | _, _, .l h r => .l (by rw [List.getElem?_append_left (List.getElem?_eq_some_iff.mp h).1]; exact h) r.push
theorem sp_make {n : Nat} {C : String} {Q : VK} {x dx : Addr} (S : Sat K Fo A H σ ρ) (ra : RepAs K A σ vs as) (hn : as.length + 1 = n) (p : Post K W Fo A σ (makeAt C c as ρ) Q) (hx : H x = none) (hdx : H dx = none) (hne : dx ≠ x) :
    spD K n c (.ref x :: vs) (upd (upd H dx (.own x)) x (.ins (He.ga K (Str.ofString C)) dx [])) (fun v H2 => v = .non ∧ Q (.ref x) H2) (WE W σ) := by
  have hx' : (upd H dx (.own x)) x = none := by rw [upd_ne hne.symm]; exact hx
  have S1 : Sat K Fo A (upd H dx (.own x)) σ ρ := S.fresh hdx
  have S2 : Sat K Fo A (upd (upd H dx (.own x)) x (.ins (He.ga K (Str.ofString C)) dx [])) σ ρ := S1.fresh hx'
  have r2 : RepR K Fo A (upd (upd H dx (.own x)) x (.ins (He.ga K (Str.ofString C)) dx [])) σ ρ (.ref x) (.own (.ins C [] [])) := S1.newOwn hx' (.ins rfl .nil)
  have S3 := Sat.push (o := .own x) S2 r2
  have ra3 : RepAs K A (σ ++ [some (.ref x)]) (.ref x :: vs) (.l ρ.length :: as) := .l (by rw [← S.len, List.getElem?_append_right (Nat.le_refl _)]; simp) ra.push
  have wish : WE W σ = WE (fun cls d _ H => W cls d σ H) (σ ++ [some (V.ref x)]) := rfl
  rw [wish]
  refine sp_call S3 ra3 hn ?_
  unfold makeAt at p
  have tkl : ∀ {A' H' : Hp} {ρ2 : Slots}, Sat K Fo A' H' (σ ++ [some (V.ref x)]) ρ2 → Sat K Fo A' H' σ (ρ2.take ρ.length) := fun {A' H' ρ2} S' => by rw [← S.len]; exact S'.pop
  cases hc : callAt c (.l ρ.length :: as) (ρ ++ [some (.own (.ins C [] []))]) with
  | bad => rw [hc] at p; exact p
  | exc y ρ2 => rw [hc] at p; exact fun cls dct A' H' e S' rx => p cls dct A' H' e (tkl S') rx
  | ok r ρ2 =>
    rw [hc] at p
    intro v A' H' e S' rv
    cases rv with
    | own => exact p.elim
    | val rv =>
      cases rv <;> first
        | exact p.elim
        | (refine ⟨rfl, ?_⟩
           dsimp only at p
           cases hi : ρ2[ρ.length]? with
           | none => rw [hi] at p; exact p.elim
           | some o =>
             rw [hi] at p
             cases o with
             | none => exact p.elim
             | some r' =>
               cases r' with
               | val d => exact p.elim
               | own m =>
                 obtain ⟨a, u, e1, e2, e3, e4, e5⟩ := S'.own _ m hi
                 rw [← S.len, List.getElem?_append_right (Nat.le_refl _)] at e1
                 simp at e1
                 subst e1
                 refine p _ A' H' e (tkl S') (.own e2 e3 e4 e5 fun i m' g1 g2 => ?_)
                 rw [List.getElem?_take] at g1
                 split at g1
                 · rename_i hlt
                   have hlt' : i < σ.length := by rw [S.len]; exact hlt
                   have := S'.inj i ρ.length m' m x g1 hi (by rw [List.getElem?_append_left hlt']; exact g2) (by rw [← S.len, List.getElem?_append_right (Nat.le_refl _)]; simp)
                   omega
                 · cases g1)
end
theorem run_makeS' {W : WX} {C fi : Addr} {fd : FuncData} {ps : List Str} {sp : Sp} {k : Nat} {pins : List (Addr × Obj)} {σ : L2.St} {H : Hp} {s : Shared} {Q : VK} {us : List Value} {vs : List V} (M : Mk X.K C fi) (F : FnOk X.prog X.w X.K X.mg X.base (L2.CX X.prog X.w) k fi fd ps sp) (hr : Room (k + 1) X.A) (hb : Binds X.K fd ps [])
    (tk : Takes X W) (I : Inv X pins σ H s) (r : Vals vs us)
    (h : ∀ x dx, H x = none → H dx = none → dx ≠ x → sp (.ref x :: vs) (upd (upd H dx (.own x)) x (.ins C dx [])) (fun v H2 => v = .non ∧ Q (.ref x) H2) (WE W σ)) :
    wpAny (model X.prog X.w) X.A (call (.ref C) us) (EP X pins σ Q) X.xe s := by
  have hq := h (s.heap.objs.size + 1) s.heap.objs.size (I.hok.fresh (Nat.le_succ _)) (I.hok.fresh (Nat.le_refl _)) (Nat.ne_of_lt (Nat.lt_succ_self _))
  have I2 := Inv.made (C := C) I
  have r2 : Vals (V.ref (s.heap.objs.size + 1) :: vs) (Value.ref (s.heap.objs.size + 1) :: us) := .cons rfl r
  have hl : (Value.ref (s.heap.objs.size + 1) :: us ++ []).length = ps.length := by
    rw [List.append_nil]
    have e := r2.length
    rw [F.len _ _ _ _ hq] at e
    exact e.symm
  have hb' := hb _ (Value.ref (s.heap.objs.size + 1) :: us) I2.kIn hl
  rw [List.append_nil] at hb'
  refine wpAny_call (make_map (f := fi) I.kIn M.makes M.init (beq_iff_eq.mp M.fn) (codeAny_mono (F.run _ X.stack _ _ ⟨Value.ref (s.heap.objs.size + 1) :: us, []⟩ (Value.ref (s.heap.objs.size + 1) :: us) _ _ (WE W σ) (hr.make C us [])
    (I2.env0.make C us []) hb' r2 hq) fun r s' hq' => ?_))
  cases r with
  | error e => exact passAt tk σ pins _ _ e s' I2 hq'
  | ok fl =>
    cases fl with
    | ret u =>
      obtain ⟨v, H', I3, rv, ev, q3⟩ := I2.after hq'
      subst ev
      exact ⟨rv, ⟨V.ref (s.heap.objs.size + 1), H', I3, rfl, q3⟩⟩
    | next => exact False.elim hq'
    | brk => exact False.elim hq'
    | cont => exact False.elim hq'
/-- C(e, ..) -/
theorem de_make {C : String} {fi : Addr} (M : Mk X.K (He.ga X.K (Str.ofString C)) fi) (F : FdOk X.prog X.w X.K X.mg X.base k fi n c) (hr : Room (k + 1) X.A) (hg : Gl X x) (hm : X.mg x = some (.ref (He.ga X.K (Str.ofString C)))) (tk : Takes X W) (ha : DA X W (e :: es) args) (hn : args.length + 1 = n)
    (hdb : (x == ("__debug__" : Str)) = false := by decide) (he : starEach (e :: es) X.env = (false, eval e X.env) :: starEach es X.env := by rfl) (hpl : (backTo pos (starEach es X.env)).any (·.1) = false := by rfl) :
    DE X W (.Call (.Name x p) (e :: es) [] pos) (dMake C c args) := by
  obtain ⟨fd, ps, F, hb, hk⟩ := F
  refine ⟨fun pins s σ H Q I h => ?_⟩
  refine wpAny_Call_Name_kw (ld_glob I hg hm ?_ hdb)
  obtain ⟨Fo, A, ρ, S, q⟩ := h
  have h' : rdA X.K W args σ H fun vs H1 => ∀ x dx, H1 x = none → H1 dx = none → dx ≠ x → spD X.K n c (.ref x :: vs) (upd (upd H1 dx (.own x)) x (.ins (He.ga X.K (Str.ofString C)) dx [])) (fun v H2 => v = .non ∧ Q (.ref x) H2) (WE W σ) := by
    refine ⟨Fo, A, ρ, S, ?_⟩
    unfold dMake at q
    cases ha : runArgs args ρ with
    | bad => rw [ha] at q; exact q
    | exc x ρ1 => rw [ha] at q; exact q
    | ok as ρ1 => rw [ha] at q; exact fun vs A' H' e S' ra y dy h1 h2 h3 => sp_make S' ra (by rw [runArgs_len ha]; exact hn) (Post.ext q e) h1 h2 h3
  refine PySem.W.callWith_K (h₀ := X.base) I.ok.mod.kin M.kp (thn (ha.run pos pins s σ H _ I h') fun us s1 ⟨vs, H1, I1, r, q⟩ => ⟨I1.kIn, ?_⟩) he hpl
  exact run_makeS' M F hr hb tk I1 r q
end

/-! ### fields -/
def fldD (f : Str) : List Str → List D → Option D
  | n :: ns, d :: ds => if f = n then some d else fldD f ns ds
  | _, _ => none
theorem fld_get {K : PySem.W.Frag} {A : Hp} {f : Str} {d : D} : ∀ {fs : List (Str × V)} {ds : List D}, RepL K A (fs.map (·.2)) ds → fldD f (fs.map (·.1)) ds = some d → ∃ v, fs.lookup f = some v ∧ Rep K A v d
  | [], _, .nil, h => by cases h
  | (n, v) :: fs, d' :: ds, .cons hv r, h => by
    replace h : (if f = n then some d' else fldD f (fs.map (·.1)) ds) = some d := h
    by_cases e : f = n
    · rw [if_pos e] at h; cases h
      subst e
      exact ⟨v, by simp [List.lookup], hv⟩
    · rw [if_neg e] at h
      obtain ⟨v', h1, h2⟩ := fld_get r h
      exact ⟨v', by rw [List.lookup, show (f == n) = false from beq_eq_false_iff_ne.mpr e]; exact h1, h2⟩
/-- an object's class has no attribute f of its own -/
structure FldOk (K : PySem.W.Frag) (C : String) (f : Str) : Prop where
  cl : Cls K (He.ga K (Str.ofString C))
  no : NoAttr K (He.ga K (Str.ofString C)) f
def gFld (C : String) (f : Str) : D → VRes
  | .ins C' ns xs => if C' = C then (match fldD f ns xs with
    | some d => .ok (.val d)
    | none => .bad) else .bad
  | _ => .bad
section
variable {X : Cx} {W : WX}
theorem de_fld {e : Expr} {d : DEn} {C : String} {f : Str} {pos : Pos} (ok : FldOk X.K C f) (he : DE X W e d) (hb : attributeBase e f X.env (eval e X.env) = eval e X.env := by rfl) : DE X W (.Attribute e f pos) (dUn (gFld C f) d) := PE.weak (pe_fld he hb) fun σ H Q ⟨Fo, A, ρ, S, p⟩ => ⟨Fo, A, ρ, S, post_bind p fun x dx A1 H1 ρ1 e1 S1 r1 p1 => by
  cases r1 <;> first
    | exact p1.elim
    | (rename_i a dx C' fs ns ds h n r
       replace p1 : Post X.K W Fo A1 σ ((if C' = C then (match fldD f ns ds with
         | some d => VRes.ok (.val d)
         | none => .bad) else .bad).at ρ1) Q := p1
       obtain ⟨hc, q1⟩ := ifB (P := fun z : VRes => Post X.K W Fo A1 σ (z.at ρ1) Q) p1 id
       clear p1
       subst hc
       subst n
       cases e : fldD f (fs.map (·.1)) ds with
       | none => rw [e] at q1; exact q1.elim
       | some d =>
         rw [e] at q1
         obtain ⟨v, g1, g2⟩ := fld_get r e
         exact ⟨a, _, dx, fs, v, rfl, S1.ex _ _ h, ok.cl, ok.no, g1, Post.now q1 S1 g2⟩)⟩
/-- a field of slot i's own instance -/
def dFldO (i : Nat) (C : String) (f : Str) : DEn := fun ρ => match ρ[i]? with
  | some (some (.own (.ins C' ns xs))) => if C' = C then (match fldD f ns xs with
    | some d => .ok (.val d) ρ
    | none => .bad) else .bad
  | _ => .bad
theorem de_fldO {x : Str} {i : Nat} {C : String} {f : Str} {pos px : Pos} (ok : FldOk X.K C f) (he : PE X (.Name x px) (tVar i)) (hb : attributeBase (.Name x px) f X.env (eval (.Name x px) X.env) = eval (.Name x px) X.env := by rfl) : DE X W (.Attribute (.Name x px) f pos) (dFldO i C f) := PE.weak (pe_fld he hb) fun σ H Q ⟨Fo, A, ρ, S, p⟩ => by
  unfold dFldO at p
  cases hi : ρ[i]? with
  | none => rw [hi] at p; exact p.elim
  | some o =>
    rw [hi] at p
    cases o with
    | none => exact p.elim
    | some r =>
      cases r with
      | val d => exact p.elim
      | own m =>
        cases m with
        | ins C' ns xs =>
          obtain ⟨a, u, e1, e2, e3, e4, e5⟩ := S.own i _ hi
          replace p : Post X.K W Fo A σ (if C' = C then (match fldD f ns xs with
            | some d => ERes.ok (.val d) ρ
            | none => .bad) else .bad) Q := p
          obtain ⟨hc, q⟩ := ifB (P := fun z : ERes => Post X.K W Fo A σ z Q) p id
          clear p
          subst hc
          cases e5 with
          | ins n r =>
            rename_i dx fs
            subst n
            cases e : fldD f (fs.map (·.1)) xs with
            | none => rw [e] at q; exact q.elim
            | some d =>
              rw [e] at q
              obtain ⟨v, g1, g2⟩ := fld_get r e
              exact ⟨.ref a, e1, a, _, dx, fs, v, rfl, e4, ok.cl, ok.no, g1, Post.now q S g2⟩
        | _ => exact p.elim

/-! ### methods -/
structure MethOk (P : Program) (w : World) (K : PySem.W.Frag) (mg : Str → Option Value) (base : Heap) (C : String) (m : Str) (k n : Nat) (c : DEn) : Prop where
  cl : Cls K (He.ga K (Str.ofString C))
  ok : ∃ f, Meth K (He.ga K (Str.ofString C)) m f ∧ FdOk P w K mg base k f n c
def insHas (C : String) (m : Str) : D → Bool
  | .ins C' ns _ => decide (C' = C) && !ns.contains m
  | _ => false
/-- o.m(..), o data -/
def dMeth (C : String) (m : Str) (c : DEn) (d : DEn) (args : List Arg) : DEn := fun ρ => (d ρ).bind fun x ρ1 => if insHas C m x then (match runArgs args ρ1 with
  | .ok as ρ2 => callAt c (.d x :: as) ρ2
  | .exc x ρ2 => .exc x ρ2
  | .bad => .bad) else .bad
/-- .. o slot i's own instance -/
def dMethO (i : Nat) (C : String) (m : Str) (c : DEn) (args : List Arg) : DEn := fun ρ => match ρ[i]? with
  | some (some (.own q)) => if insHas C m q.toD then (match runArgs args ρ with
    | .ok as ρ2 => callAt c (.l i :: as) ρ2
    | .exc x ρ2 => .exc x ρ2
    | .bad => .bad) else .bad
  | _ => .bad
theorem no_lookup {m : Str} : ∀ {fs : List (Str × V)}, (fs.map (·.1)).contains m = false → fs.lookup m = none
  | [], _ => rfl
  | (n, v) :: fs, h => by
    rw [List.map_cons, List.contains_cons, Bool.or_eq_false_iff] at h
    rw [List.lookup]
    rw [show (m == n) = false from h.1]
    exact no_lookup h.2
theorem ins_of {K : PySem.W.Frag} {A : Hp} {C : String} {m : Str} {d : D} {x : V} (h : Rep K A x d) (e : insHas C m d = true) : ∃ a dx fs, x = .ref a ∧ A a = some (.ins (He.ga K (Str.ofString C)) dx fs) ∧ fs.lookup m = none := by
  cases h <;> first
    | cases e
    | (rename_i a dx C' fs ns ds h n r
       obtain ⟨h1, h2⟩ := Bool.and_eq_true_iff.mp e
       have e1 := of_decide_eq_true h1
       subst e1
       subst n
       exact ⟨a, dx, fs, rfl, h, no_lookup (by simpa using h2)⟩)
theorem de_meth {pl : Sem Bool} {C : String} {m : Str} {k n : Nat} {c : DEn} {o : Expr} {e : Expr} {es : List Expr} {d : DEn} {args : List Arg} {apos pos : Pos} (M : MethOk X.prog X.w X.K X.mg X.base C m k n c) (hr : Room k X.A) (tk : Takes X W) (he : DE X W o d) (ha : DA X W (e :: es) args) (hn : args.length + 1 = n)
    (hst : starEach (e :: es) X.env = (false, eval e X.env) :: starEach es X.env := by rfl) (hpl : (backTo pos (starEach es X.env)).any (·.1) = false := by rfl)
    (ht : eval (.Call (.Attribute o m apos) (e :: es) [] pos) X.env = (do
      let ov ← eval o X.env
      standAt apos.atName
      let (f, first) ← holding [ov] (getMethod ov m pl)
      callWith pos f first (backTo pos (starEach (e :: es) X.env)) (backToKw pos (keywordEach [] X.env))) := by rfl) : DE X W (.Call (.Attribute o m apos) (e :: es) [] pos) (dMeth C m c d args) := by
  obtain ⟨cl, f, hm, fd, ps, F, hb, hk⟩ := M
  refine ⟨fun pins s σ H Q I h => ?_⟩
  obtain ⟨Fo, A, ρ, S, p⟩ := h
  have h' : rd X.K W d σ H fun x H1 => ∃ a dx fs, x = .ref a ∧ H1 a = some (.ins (He.ga X.K (Str.ofString C)) dx fs) ∧ fs.lookup m = none ∧ rdA X.K W args σ H1 fun vs H2 => spD X.K n c (x :: vs) H2 Q (WE W σ) := by
    refine ⟨Fo, A, ρ, S, post_bind p fun x dx A1 H1 ρ1 e1 S1 r1 p1 => ?_⟩
    obtain ⟨hc, p1⟩ := ifB (P := fun z : ERes => Post X.K W Fo A1 σ z Q) p1 id
    obtain ⟨a, dy, fs, g1, g2, g3⟩ := ins_of r1 hc
    refine ⟨a, dy, fs, g1, S1.ex _ _ g2, g3, Fo, A1, ρ1, S1, ?_⟩
    cases ha : runArgs args ρ1 with
    | bad => rw [ha] at p1; exact p1
    | exc x ρ2 => rw [ha] at p1; exact p1
    | ok as ρ2 => rw [ha] at p1; exact fun vs A' H' e S' ra => sp_call S' (.d (r1.mn e) ra) (by rw [List.length_cons, runArgs_len ha]; exact hn) (Post.ext p1 e)
  refine PySem.W.methodCall_KW (pl := pl) (thn (he.run pins s σ H _ I h') fun u s1 ⟨x, H1, I1, rx, a, dx, fs, ex, ea, l, q⟩ => ?_) ht
  subst ex
  obtain rfl : u = Value.ref a := rx
  refine getmeth_ok I1 ea cl hm l ?_
  refine PySem.W.callWith_K (first := [.ref a]) (h₀ := X.base) I.ok.mod.kin hm.kp (thn (ha.run pos pins s1 σ H1 _ I1 q) fun us s2 ⟨vs, H2, I2, r, q2⟩ => ⟨I2.kIn, ?_⟩) hst hpl
  exact run_fnS (us := .ref a :: us) (vs := .ref a :: vs) F hr hb (passAt tk σ) I2 (.cons rfl r) q2
theorem de_meth0 {pl : Sem Bool} {C : String} {m : Str} {k : Nat} {c : DEn} {o : Expr} {d : DEn} {apos pos : Pos} (M : MethOk X.prog X.w X.K X.mg X.base C m k 1 c) (hr : Room k X.A) (tk : Takes X W) (he : DE X W o d)
    (ht : eval (.Call (.Attribute o m apos) [] [] pos) X.env = (do
      let ov ← eval o X.env
      standAt apos.atName
      let (f, first) ← holding [ov] (getMethod ov m pl)
      callWith pos f first (backTo pos (starEach [] X.env)) (backToKw pos (keywordEach [] X.env))) := by rfl) : DE X W (.Call (.Attribute o m apos) [] [] pos) (dMeth C m c d []) := by
  obtain ⟨cl, f, hm, fd, ps, F, hb, hk⟩ := M
  refine ⟨fun pins s σ H Q I h => ?_⟩
  obtain ⟨Fo, A, ρ, S, p⟩ := h
  have h' : rd X.K W d σ H fun x H1 => ∃ a dx fs, x = .ref a ∧ H1 a = some (.ins (He.ga X.K (Str.ofString C)) dx fs) ∧ fs.lookup m = none ∧ spD X.K 1 c [x] H1 Q (WE W σ) := by
    refine ⟨Fo, A, ρ, S, post_bind p fun x dx A1 H1 ρ1 e1 S1 r1 p1 => ?_⟩
    obtain ⟨hc, p1⟩ := ifB (P := fun z : ERes => Post X.K W Fo A1 σ z Q) p1 id
    obtain ⟨a, dy, fs, g1, g2, g3⟩ := ins_of r1 hc
    exact ⟨a, dy, fs, g1, S1.ex _ _ g2, g3, sp_call S1 (.d r1 .nil) rfl p1⟩
  refine PySem.W.methodCall_KW (pl := pl) (thn (he.run pins s σ H _ I h') fun u s1 ⟨x, H1, I1, rx, a, dx, fs, ex, ea, l, q⟩ => ?_) ht
  subst ex
  obtain rfl : u = Value.ref a := rx
  refine getmeth_ok I1 ea cl hm l ?_
  exact PySem.W.callWith_K0 (first := [.ref a]) I1.kIn hm.kp (run_fnS (us := [.ref a]) (vs := [.ref a]) F hr hb (passAt tk σ) I1 (.cons rfl .nil) q)
end
end DL

set_option maxRecDepth 100000
set_option maxHeartbeats 2000000
/-! DL6: operators of own classes, properties, isinstance. -/
namespace DL
open PySem PySem.Spec L2
open Evl (Ex)
open PyProof.Rows (Fr)

/-! ### calls by values -/
def callV (c : DEn) (ds : List D) : VRes := match c (ds.map fun d => some (R.val d)) with
  | .ok r _ => .ok r
  | .exc x _ => .exc x
  | .bad => .bad
theorem put_d : ∀ (ds : List D) (rs ρ : Slots), put (ds.map AV.d) rs ρ = ρ
  | [], _, _ => rfl
  | _ :: ds, [], _ => rfl
  | _ :: ds, _ :: rs, ρ => put_d ds rs ρ
theorem lends_d : ∀ ds : List D, lends (ds.map AV.d) = []
  | [] => rfl
  | _ :: ds => lends_d ds
theorem callAt_d (c : DEn) (ds : List D) (ρ : Slots) : callAt c (ds.map AV.d) ρ = (callV c ds).at ρ := by
  unfold callAt callV
  rw [lends_d, if_pos ⟨List.nodup_nil, by simp [argR]⟩]
  have e : (ds.map AV.d).map (argR ρ) = ds.map fun d => some (R.val d) := by rw [List.map_map]; rfl
  rw [e]
  cases c (ds.map fun d => some (R.val d)) with
  | bad => rfl
  | exc x rs => show ERes.exc x (put _ rs ρ) = _; rw [put_d] <;> rfl
  | ok r rs => show ERes.ok r (put _ rs ρ) = _; rw [put_d] <;> rfl
theorem RepL.as {K : PySem.W.Frag} {A : Hp} {σ : L2.St} : ∀ {vs : List V} {ds : List D}, RepL K A vs ds → RepAs K A σ vs (ds.map AV.d)
  | _, _, .nil => .nil
  | _, _, .cons h r => .d h r.as
section
variable {X : Cx} {W : WX} {k n : Nat} {f : Addr} {c : DEn} {pins : List (Addr × Obj)} {s : Shared} {σ : L2.St} {H Fo A : Hp} {ρ : Slots} {us : List Value} {vs : List V} {ds : List D} {Q : VK}
theorem FdOk.val (F : FdOk X.prog X.w X.K X.mg X.base k f n c) (hr : Room k X.A) (tk : Takes X W) (I : Inv X pins σ H s) (S : Sat X.K Fo A H σ ρ) (r : Vals vs us) (ra : RepL X.K A vs ds) (hn : ds.length = n)
    (p : Post X.K W Fo A σ ((callV c ds).at ρ) Q) : wpAny (model X.prog X.w) X.A (call (.ref f) us) (EP X pins σ Q) X.xe s := by
  obtain ⟨fd, ps, F, hb, _⟩ := F
  exact run_fnS F hr hb (passAt tk σ) I r (sp_call S ra.as (by rw [List.length_map]; exact hn) (by rw [callAt_d]; exact p))
/-- one unit deeper -/
theorem FdOk.val1 (F : FdOk X.prog X.w X.K X.mg X.base k f n c) (hr : Room (k + 1) X.A) (tk : Takes X W) (I : Inv X pins σ H s) (S : Sat X.K Fo A H σ ρ) (r : Vals vs us) (ra : RepL X.K A vs ds) (hn : ds.length = n)
    (p : Post X.K W Fo A σ ((callV c ds).at ρ) Q) : wpAny (model X.prog X.w) X.A.in1 (call (.ref f) us) (EP X pins σ Q) X.xe s := by
  obtain ⟨fd, ps, F, hb, _⟩ := F
  have hsp : spD X.K n c vs H Q (WE W σ) := sp_call S ra.as (by rw [List.length_map]; exact hn) (by rw [callAt_d]; exact p)
  have hl : us.length = ps.length := by rw [← r.length]; exact F.len _ _ _ _ hsp
  have b := hb s us I.kIn (by rw [List.append_nil]; exact hl)
  rw [List.append_nil] at b
  refine wpAny_call (codeAny_mono (F.run X.A.in1 X.stack s H ⟨us, []⟩ us vs Q (WE W σ) hr.in1 I.env0.in1 b r hsp) fun r s' hq => ?_)
  cases r with
  | error e => exact passAt tk σ pins H s e s' I hq
  | ok fl =>
    cases fl with
    | ret u => exact I.after hq
    | next => exact False.elim hq
    | brk => exact False.elim hq
    | cont => exact False.elim hq
theorem back_of {P : Value → Shared → Prop} {u : Value} {s' : Shared} (h : EP X pins σ Q u s') (k : ∀ v H', Inv X pins σ H' s' → RelV v u → Q v H' → P u s') : PySem.W.CmpBack P u s' := by
  obtain ⟨v, H', I', r, q⟩ := h
  have hp := k v H' I' r q
  cases v with
  | non => cases r; exact hp
  | bl b => cases r; exact hp
  | int i => obtain ⟨t, rfl⟩ := r; exact hp
  | str i => obtain ⟨t, rfl⟩ := r; exact hp
  | byt i => obtain ⟨t, rfl⟩ := r; exact hp
  | flt i => obtain ⟨t, rfl⟩ := r; exact hp
  | ref a => cases r; exact hp
  | ty n => cases r; exact hp
end

/-! ### types -/
inductive Tn where
  | ty (n : String)
  | cls (n : String)
  deriving DecidableEq
def Tn.code (K : PySem.W.Frag) : Tn → Value
  | .ty n => .type n
  | .cls n => .ref (He.ga K (Str.ofString n))
def tyD : D → Option Tn
  | .non => some (.ty "NoneType")
  | .bl _ => some (.ty "bool")
  | .int _ => some (.ty "int")
  | .str _ => some (.ty "str")
  | .lst _ => some (.ty "list")
  | .tup _ => none
  | .dic _ _ => some (.ty "dict")
  | .dit _ _ => some (.ty "dict")
  | .ins C _ _ => some (.cls C)
  | _ => none
theorem tyD_int {d : D} (h : tyD d = some (.ty "int")) : ∃ i, d = .int i := by
  cases d <;> simp [tyD] at h
  exact ⟨_, rfl⟩
theorem type_of {X : Cx} {pins : List (Addr × Obj)} {s : Shared} {σ : L2.St} {H A : Hp} {v : V} {u : Value} {d : D} {t : Tn} (I : Inv X pins σ H s) (e : Ex A H) (r : RelV v u) (h : Rep X.K A v d) (ht : tyD d = some t) : PySem.W.Looks (model X.prog X.w) s.heap (typeOf u) (t.code X.K) := by
  have objs : ∀ {a : Addr} {o : Obj} {T : Value}, s.heap.get? a = some o → o.cls = T → PySem.W.Looks (model X.prog X.w) s.heap (typeOf (.ref a)) T := fun {a o T} e1 e2 A Q E s' k q => wpAny_typeOf_ref (k _ _ e1) (by rw [e2]; exact q)
  cases h with
  | non => cases r; cases ht; exact PySem.W.Looks.of_pure rfl
  | bl b => cases r; cases ht; exact PySem.W.Looks.of_pure rfl
  | int i => obtain ⟨tk, rfl⟩ := r; cases ht; exact PySem.W.Looks.of_pure rfl
  | str i => obtain ⟨tk, rfl⟩ := r; cases ht; exact PySem.W.Looks.of_pure rfl
  | ty n => cases ht
  | adr n => cases ht
  | fix h l => cases ht
  | tup h l => cases ht
  | dif h n l => cases ht
  | lst h l =>
    cases r; cases ht
    obtain ⟨_, its, n, _, ho⟩ := I.hok _ _ (e _ _ h)
    exact objs ho rfl
  | dic h n l =>
    cases r; cases ht
    obtain ⟨_, _, vs, _, o, es, ep, ho, hc, _⟩ := I.hok _ _ (e _ _ h)
    exact objs ho hc.1
  | dit h n l =>
    cases r; cases ht
    obtain ⟨_, _, xs, _, o, es, ep, ho, hc, _⟩ := I.hok _ _ (e _ _ h)
    exact objs ho hc.1
  | ins h n l =>
    cases r; cases ht
    obtain ⟨mA, O, _⟩ := ins_get I.hok (e _ _ h)
    obtain ⟨od, J, _⟩ := O.look
    exact J.type

/-! ### own operators -/
def insIs (C : String) : D → Bool
  | .ins C' _ _ => decide (C' = C)
  | _ => false
theorem insIs_of {K : PySem.W.Frag} {A : Hp} {C : String} {d : D} {x : V} (h : Rep K A x d) (e : insIs C d = true) : ∃ a dx fs, x = .ref a ∧ A a = some (.ins (He.ga K (Str.ofString C)) dx fs) := by
  cases h <;> first
    | cases e
    | (rename_i a dx C' fs ns ds h n r
       have e1 := of_decide_eq_true e
       subst e1
       exact ⟨a, dx, fs, rfl, h⟩)
/-- the class has the def of that name, doing c -/
structure OwnOk (P : Program) (w : World) (K : PySem.W.Frag) (mg : Str → Option Value) (base : Heap) (C : String) (m : Str) (k n : Nat) (c : DEn) : Prop where
  cl : Cls K (He.ga K (Str.ofString C))
  ok : ∃ f, PySem.W.findIn K (.ref (He.ga K (Str.ofString C))) m = some (some (.ref f)) ∧ PySem.W.isFn K (.ref f) = true ∧ FdOk P w K mg base k f n c
def gOwn1 (C : String) (c : DEn) (x : D) : VRes := if insIs C x then callV c [x] else .bad
def gOwn2 (C : String) (ts : List Tn) (c : DEn) (x y : D) : VRes := if insIs C x && (match tyD y with
  | some t => ts.contains t
  | none => false) then callV c [x, y] else .bad
section
variable {X : Cx} {W : WX} {k : Nat} {C : String} {c : DEn} {ts : List Tn}
theorem own_un {op : UnaryOp} {m : Str} (O : OwnOk X.prog X.w X.K X.mg X.base C m k 1 c) (hr : Room k X.A) (tk : Takes X W)
    (road : ∀ {s : Shared} {x Cx L f : Addr} {h₀ : Heap} {mm : Str → Option Value} {ox : Obj} {od : Option Obj} {Q : Value → Shared → Prop}, Fr h₀ L s.heap mm → X.K.In h₀ → PySem.W.InstAt s.heap x ox Cx od → PySem.W.findIn X.K (.ref Cx) m = some (some (.ref f)) → PySem.W.isFn X.K (.ref f) = true →
      wpAny (model X.prog X.w) X.A (call (.ref f) [.ref x]) Q X.xe s → wpAny (model X.prog X.w) X.A (unaryOp op (.ref x)) Q X.xe s) : UnD X W (unaryOp op) (gOwn1 C c) := by
  intro pins s σ H Fo A ρ x v dx Q I r1 S q1 p
  obtain ⟨hc, p⟩ := ifB (P := fun z : VRes => Post X.K W Fo A σ (z.at ρ) Q) p (fun z => z)
  obtain ⟨a, dy, fs, rfl, hA⟩ := insIs_of q1 hc
  cases r1
  obtain ⟨f, hs, hf, F⟩ := O.ok
  obtain ⟨mA, O', _⟩ := ins_get I.hok (S.ex _ _ hA)
  obtain ⟨od, J, _⟩ := O'.look
  obtain ⟨m, hF⟩ := I.fr
  exact road hF I.ok.mod.kin J hs hf (F.val (vs := [.ref a]) (us := [.ref a]) hr tk I S (.cons rfl .nil) (.cons q1 .nil) rfl p)
theorem own_inv (O : OwnOk X.prog X.w X.K X.mg X.base C "__invert__" k 1 c) (hr : Room k X.A) (tk : Takes X W) : UnD X W (unaryOp .Invert) (gOwn1 C c) := own_un O hr tk fun F X₀ I hs hf h => PySem.W.ksp_inv F X₀ I hs hf h
theorem own_neg (O : OwnOk X.prog X.w X.K X.mg X.base C "__neg__" k 1 c) (hr : Room k X.A) (tk : Takes X W) : UnD X W (unaryOp .USub) (gOwn1 C c) := own_un O hr tk fun F X₀ I hs hf h => PySem.W.ksp_neg F X₀ I hs hf h
end
section
variable {prog : Program} {w : World} {M : Model} {A : Around} {E : Value → Shared → Prop} {s : Shared} {K : PySem.W.Frag} {x C L f : Addr} {h₀ : Heap} {m : Str → Option Value} {ox : Obj} {od : Option Obj} {nm T : String}
open PySem.W in
/-- a op b, both of the class C -/
theorem ksp_binS {op : Operator} {b : Value} {Q : Value → Shared → Prop} (F : Fr h₀ L s.heap m) (X₀ : K.In h₀) (I : InstAt s.heap x ox C od) (hb : PySem.W.Looks (model prog w) s.heap (typeOf b) (.ref C)) (hc : selfFirst K C = true)
    (hs : findIn K (.ref C) (PySem.dunder op.info.2) = some (some (.ref f))) (hf : isFn K (.ref f) = true)
    (h : wpAny (model prog w) A (call (.ref f) [.ref x, b]) (CmpBack Q) E s) : wpAny (model prog w) A (binaryOp op (.ref x) b) Q E s := by
  have X := X₀.keeps F.keep
  obtain ⟨cd, rest, hcd, hm⟩ := ksp_first hc
  rcases hi : op.info with ⟨sym, nm'⟩
  rw [hi] at hs
  dsimp only at hs
  have one := ksp_try X I hs hf h
  obtain ⟨hh, g, d, tt, os⟩ := s
  have L1 : Looks (model prog w) hh (typeOf (.ref x)) (.ref C) := I.type
  have L2 : Looks (model prog w) hh (typeOf b) (.ref C) := hb
  have L3 : Looks (model prog w) hh (fillsNumberSlot (.ref C) nm') true := fills_K X hcd hm hs
  simp only [binaryOp, hi]
  refine wpAny_holding (wpAny_bind ?_)
  unfold binaryOp1
  refine wpAny_bind (L1.at (wpAny_bind (L2.at (wpAny_bind (L3.at ?_)))))
  simp only [beq_self_eq_true, if_true]
  ksp_lk
  refine wpAny_mono one (fun r s' hr' => ?_) fun _ _ e => e
  obtain ⟨v, rfl, hq⟩ := hr'
  ksp_lk
  exact hq
end

section
variable {X : Cx} {W : WX} {k : Nat} {C : String} {c : DEn} {ts : List Tn}
/-- what both readings of a two-place own operator start with -/
theorem own_two {m : Str} {n : Nat} (O : OwnOk X.prog X.w X.K X.mg X.base C m k 2 c) (hr : Room k X.A) (tk : Takes X W) {f2 : Value → Value → Sem Value} {dres : D → D → VRes} (hd : ∀ x y, dres x y = gOwn2 C ts c x y)
    (road : ∀ {pins : List (Addr × Obj)} {s : Shared} {σ : L2.St} {H A : Hp} {a f : Addr} {y : V} {u : Value} {dy : D} {t : Tn} {Q : VK} {ox : Obj} {od : Option Obj}, L2.Inv X pins σ H s → PySem.W.InstAt s.heap a ox (He.ga X.K (Str.ofString C)) od → Ex A H → RelV y u → Rep X.K A y dy → tyD dy = some t → t ∈ ts →
      PySem.W.findIn X.K (.ref (He.ga X.K (Str.ofString C))) m = some (some (.ref f)) → PySem.W.isFn X.K (.ref f) = true → wpAny (model X.prog X.w) X.A (call (.ref f) [.ref a, u]) (PySem.W.CmpBack (EP X pins σ Q)) X.xe s → wpAny (model X.prog X.w) X.A (f2 (.ref a) u) (EP X pins σ Q) X.xe s) : OpD X W f2 dres := by
  intro pins s σ H Fo A ρ x y v u dx dy Q I r1 r2 S q1 q2 p
  rw [hd] at p
  obtain ⟨hc, p⟩ := ifB (P := fun z : VRes => Post X.K W Fo A σ (z.at ρ) Q) p (fun z => z)
  obtain ⟨h1, h2⟩ := Bool.and_eq_true_iff.mp hc
  obtain ⟨a, dy', fs, rfl, hA⟩ := insIs_of q1 h1
  cases r1
  cases ht : tyD dy with
  | none => rw [ht] at h2; cases h2
  | some t =>
    rw [ht] at h2
    obtain ⟨f, hs, hf, F⟩ := O.ok
    obtain ⟨mA, O', _⟩ := ins_get I.hok (S.ex _ _ hA)
    obtain ⟨od, J, _⟩ := O'.look
    refine road I J S.ex r2 q2 ht (by simpa using h2) hs hf ?_
    exact wpAny_mono (F.val (vs := [.ref a, y]) (us := [.ref a, u]) hr tk I S (.cons rfl (.cons r2 .nil)) (.cons q1 (.cons q2 .nil)) rfl p) (fun r s' h => back_of h fun v H' I' rv q => ⟨v, H', I', rv, q⟩) fun _ _ z => z
/-- a op b of the same class -/
theorem own_binS {op : Operator} (O : OwnOk X.prog X.w X.K X.mg X.base C (PySem.dunder op.info.2) k 2 c) (hr : Room k X.A) (tk : Takes X W) (hc : PySem.W.selfFirst X.K (He.ga X.K (Str.ofString C)) = true) : OpD X W (binaryOp op) (gOwn2 C [.cls C] c) :=
  own_two (n := 2) O hr tk (fun _ _ => rfl) fun I J e r2 q2 ht hm hs hf h => by
    obtain ⟨m, hF⟩ := I.fr
    have := List.mem_singleton.mp hm
    subst this
    exact ksp_binS hF I.ok.mod.kin J (type_of I e r2 q2 ht) hc hs hf h
/-- a op n, n an int -/
theorem own_binI {op : Operator} {fo ro rc : Option Value} (O : OwnOk X.prog X.w X.K X.mg X.base C (PySem.dunder op.info.2) k 2 c) (hr : Room k X.A) (tk : Takes X W) (hc : PySem.W.selfFirst X.K (He.ga X.K (Str.ofString C)) = true)
    (hr' : PySem.W.findIn X.K (.ref (He.ga X.K (Str.ofString C))) (PySem.dunderR op.info.2) = some rc) (hp : rc = none ∨ ∃ g : Addr, rc = some (.ref g))
    (h1 : PySem.W.findIn X.K (.type "int") (PySem.dunder op.info.2) = some fo) (h2 : PySem.W.findIn X.K (.type "int") (PySem.dunderR op.info.2) = some ro) (hsub : PySem.W.subIn X.K (.type "int") (.ref (He.ga X.K (Str.ofString C))) = some false) : OpD X W (binaryOp op) (gOwn2 C [.ty "int"] c) :=
  own_two (n := 2) O hr tk (fun _ _ => rfl) fun I J e r2 q2 ht hm hs hf h => by
    obtain ⟨m, hF⟩ := I.fr
    have := List.mem_singleton.mp hm
    subst this
    obtain ⟨i, rfl⟩ := tyD_int ht
    cases q2
    obtain ⟨t, rfl⟩ := r2
    exact PySem.W.ksp_binT hF I.ok.mod.kin J rfl hc hs hf hr' hp h1 h2 hsub h
/-- a == b by the class's __eq__ -/
theorem own_eq (O : OwnOk X.prog X.w X.K X.mg X.base C "__eq__" k 2 c) (hr : Room k X.A) (tk : Takes X W) (nf : ∀ t ∈ ts, PySem.W.notFirst X.K (He.ga X.K (Str.ofString C)) (t.code X.K) = true) : OpD X W (compareOp .Eq) (gOwn2 C ts c) :=
  own_two (n := 2) O hr tk (fun _ _ => rfl) fun I J e r2 q2 ht hm hs hf h => by
    obtain ⟨m, hF⟩ := I.fr
    exact PySem.W.cmp_K (op := .Eq) hr.units0 hF I.ok.mod.kin J (type_of I e r2 q2 ht) (nf _ hm) hs hf h
end
end DL

set_option maxRecDepth 100000
set_option maxHeartbeats 2000000
/-! DL7: !=, len, properties, isinstance. -/
namespace DL
open PySem PySem.Spec L2
open Evl (Ex)
open PyProof.Rows (Fr)

/-! ### a != b by the class's __eq__ -/
section
variable {M : Model} {prog : Program} {w : World} {A : Around} {E : Value → Shared → Prop} {s : Shared} {K : PySem.W.Frag} {x C f : Addr} {ox : Obj} {od : Option Obj} {b : Value}
open PySem.SeqAt in
theorem ne_entry {R : Value → Shared → Prop} (hu : A.units < cLine) (X : K.In s.heap) (I : PySem.W.InstAt s.heap x ox C od) (hs : PySem.W.findIn K (.ref C) "__eq__" = some (some (.ref f))) (hf : PySem.W.isFn K (.ref f) = true)
    (h : wpAny M A (call (.ref f) [.ref x, b]) (fun v s' => ∃ r, v = .bool r ∧ R (.bool !r) s') E s) {Q : Fin → Shared → Prop} (hq : ∀ v s', R v s' → Q (.done (.ret v)) s') : wpAny M A (Builtin.«object.__ne__» ⟨[.ref x, b], []⟩) Q E s := by
  unfold Builtin.«object.__ne__»
  have sp : ∀ {Q2 : Option Value → Shared → Prop}, (∀ r s', R (.bool !r) s' → Q2 (some (.bool r)) s') → wpAny M A (callSpecialIfBound? (.ref x) "__eq__" [b]) Q2 E s := fun {Q2} k =>
    PySem.W.ifBound_K X I hs hf (wpAny_mono h (fun v s' ⟨r, e, hr⟩ => by subst e; exact k r s' hr) fun _ _ z => z)
  repeat (first | with_reducible refine wpAny_cRoomFor hu ?_ | (with_reducible refine wpAny_bind (sp fun r s' hr => ?_)) | wp_step)
  all_goals first
    | exact hq _ _ hr
    | trace_state
end

section
variable {prog : Program} {w : World} {A : Around} {E : Value → Shared → Prop} {s : Shared} {K : PySem.W.Frag} {x C f L : Addr} {h₀ : Heap} {m : Str → Option Value} {ox : Obj} {od : Option Obj} {b tb : Value}
open PySem.SeqAt PySem.W in
theorem ifBound_objNe {M : Model} {args : List Value} {Q : Option Value → Shared → Prop} (X : K.In s.heap) (I : InstAt s.heap x ox C od) (hs : findIn K (.ref C) "__ne__" = some (some (.builtin "object.__ne__")))
    (h : wpAny M A (call (.builtin "object.__ne__") (.ref x :: args)) (fun v => Q (some v)) E s) : wpAny M A (callSpecialIfBound? (.ref x) "__ne__" args) Q E s := by
  simp only [callSpecialIfBound?, bindSpecialIfBound?]
  refine wpAny_holding (wpAny_bind (wpAny_bind (wpAny_bind (I.type.here ((looks_findIn X hs).here ?_)))))
  refine wpAny_bind (wpAny_askSetting (wpAny_ite ?_))
  have fin : wpAny M A (call (.builtin "object.__ne__") ([.ref x] ++ args) >>= fun v => pure (some v)) Q E s := wpAny_bind (wpAny_mono h (fun v s' h' => wpAny_pure h') fun _ _ h' => h')
  split
  · exact wpAny_bind (wpAny_of_eq (F.cmp_object.ne.bind _) (wpAny_pure (by exact fin)))
  · exact wpAny_tryCatch (wpAny_bind (wpAny_of_eq (F.cmp_object.ne.bind _) (wpAny_pure (by exact fin))))
open PySem.SeqAt PySem.W in
theorem ne_own {Q : Value → Shared → Prop} (hu : A.units + 1 < cLine) (Fm : Fr h₀ L s.heap m) (X₀ : K.In h₀) (I : InstAt s.heap x ox C od) (hb : PySem.W.Looks (model prog w) s.heap (typeOf b) tb) (hn : notFirst K C tb = true)
    (hs : findIn K (.ref C) "__eq__" = some (some (.ref f))) (hf : isFn K (.ref f) = true) (hne : findIn K (.ref C) "__ne__" = some (some (.builtin "object.__ne__"))) (hm : mroIn K C (.type "object") = some true)
    (h : wpAny (model prog w) A.in1 (call (.ref f) [.ref x, b]) (fun v s' => ∃ r, v = .bool r ∧ Q (.bool !r) s') E s) : wpAny (model prog w) A (richCompare .NotEq (.ref x) b) Q E s := by
  have X := X₀.keeps Fm.keep
  have one : wpAny (model prog w) A (tryCompare (.ref x) "__ne__" b) (fun r s' => ∃ v, r = some v ∧ Q v s') E s := by
    unfold tryCompare
    refine wpAny_bind (ifBound_objNe X I hne (wpAny_call (codeAny_call_builtin F.cmp_object.ne.plain F.cmpEntry_ne (check_slot F.cmpKind_ne F.cmpSplit_ne (I.type.andThen (looks_mroIn X hm)) (F.cmpArgs_ne _ _)
      (ne_entry (A := A.in1) (R := fun v s' => ∃ r, v = .bool r ∧ Q v s') hu X I hs hf (wpAny_mono h (fun v s' ⟨r, e, q⟩ => ⟨r, e, _, rfl, q⟩) fun _ _ z => z) fun v s' q => ?_)))))
    obtain ⟨r, rfl, q⟩ := q
    exact wpAny_pure ⟨_, rfl, q⟩
  unfold richCompare
  simp only [oneThing_ref]
  refine wpAny_holding (wpAny_bind (wpAny_cRoomFor (by omega) ?_))
  refine wpAny_bind (I.type.here (wpAny_bind (hb.here ?_)))
  split
  · rename_i q
    have e : subIn K tb (.ref C) = some false := by
      rcases Bool.or_eq_true_iff.mp hn with e | e
      · rw [beq_iff_eq.mp e] at q; simp at q
      · exact beq_iff_eq.mp e
    refine wpAny_bind ((looks_subIn X e).here ?_)
    simp only [Bool.false_eq_true, if_false]
    refine wpAny_bind (wpAny_mono one (fun r s' z => ?_) fun _ _ e => e)
    obtain ⟨v, rfl, hq⟩ := z
    exact wpAny_pure hq
  · refine wpAny_bind (wpAny_pure ?_)
    simp only [Bool.false_eq_true, if_false]
    refine wpAny_bind (wpAny_mono one (fun r s' z => ?_) fun _ _ e => e)
    obtain ⟨v, rfl, hq⟩ := z
    exact wpAny_pure hq
end

section
variable {X : Cx} {W : WX} {k : Nat} {C : String} {c : DEn} {ts : List Tn}
def boolV : VRes → Bool
  | .ok (.val (.bl _)) => true
  | .exc _ => true
  | _ => false
def gOwnNe (C : String) (ts : List Tn) (c : DEn) (x y : D) : VRes := (gOwn2 C ts c x y).not
theorem own_ne (O : OwnOk X.prog X.w X.K X.mg X.base C "__eq__" k 2 c) (hr : Room (k + 1) X.A) (tk : Takes X W) (nf : ∀ t ∈ ts, PySem.W.notFirst X.K (He.ga X.K (Str.ofString C)) (t.code X.K) = true)
    (hne : PySem.W.findIn X.K (.ref (He.ga X.K (Str.ofString C))) "__ne__" = some (some (.builtin "object.__ne__"))) (hm : PySem.W.mroIn X.K (He.ga X.K (Str.ofString C)) (.type "object") = some true) : OpD X W (compareOp .NotEq) (gOwnNe C ts c) := by
  intro pins s σ H Fo A ρ x y v u dx dy Q I r1 r2 S q1 q2 p
  replace p : Post X.K W Fo A σ ((if (insIs C dx && (match tyD dy with
    | some t => ts.contains t
    | none => false)) = true then callV c [dx, dy] else .bad).not.at ρ) Q := p
  cases hc : (insIs C dx && (match tyD dy with
    | some t => ts.contains t
    | none => false)) with
  | false => rw [hc] at p; exact p.elim
  | true =>
    rw [hc] at p
    replace p : Post X.K W Fo A σ ((callV c [dx, dy]).not.at ρ) Q := p
    obtain ⟨h1, h2⟩ := Bool.and_eq_true_iff.mp hc
    obtain ⟨a, dy', fs, rfl, hA⟩ := insIs_of q1 h1
    cases r1
    cases ht : tyD dy with
    | none => rw [ht] at h2; cases h2
    | some t =>
      rw [ht] at h2
      obtain ⟨f, hs, hf, F⟩ := O.ok
      obtain ⟨mA, O', _⟩ := ins_get I.hok (S.ex _ _ hA)
      obtain ⟨od, J, _⟩ := O'.look
      obtain ⟨m, hF⟩ := I.fr
      show wpAny (model X.prog X.w) X.A (richCompare .NotEq (.ref a) u) (EP X pins σ Q) X.xe s
      refine ne_own (Q := EP X pins σ Q) (by have := hr.un; omega) hF I.ok.mod.kin J (type_of I S.ex r2 q2 ht) (nf _ (by simpa using h2)) hs hf hne hm ?_
      have p' : Post X.K W Fo A σ ((callV c [dx, dy]).at ρ) (fun v H' => ∃ b, v = .bl b ∧ Q (.bl !b) H') := by
        cases hv : callV c [dx, dy] with
        | bad => rw [hv] at p; exact p
        | exc z => rw [hv] at p; exact p
        | ok r =>
          rw [hv] at p
          cases r with
          | own m => exact p.elim
          | val d =>
            cases d <;> first
              | exact p.elim
              | (intro v A' H' e S' rv
                 cases rv with
                 | val rv => cases rv; exact ⟨_, rfl, p _ A' H' e S' (.val (.bl _))⟩)
      exact wpAny_mono (F.val1 (vs := [.ref a, y]) (us := [.ref a, u]) hr tk I S (.cons rfl (.cons r2 .nil)) (.cons q1 (.cons q2 .nil)) rfl p') (fun r s' ⟨v, H', I', rv, b, e, q⟩ => by
        subst e
        cases rv
        exact ⟨b, rfl, .bl !b, H', I', rfl, q⟩) fun _ _ z => z
/-- len(o), o of the class -/
def gOwnLen (C : String) (c : DEn) : List D → VRes
  | [x] => if insIs C x then (match callV c [x] with
    | .ok (.val (.int n)) => if 0 ≤ n ∧ n < 2 ^ 63 then .ok (.val (.int n)) else .bad
    | .exc z => .exc z
    | _ => .bad) else .bad
  | _ => .bad
theorem own_len (O : OwnOk X.prog X.w X.K X.mg X.base C "__len__" k 1 c) (hr : Room (k + 1) X.A) (tk : Takes X W) : CallD X W (.builtin "len") (gOwnLen C c) := by
  intro pins s σ H Fo A ρ xs us ds Q I r S ra p
  cases ra with
  | nil => exact p.elim
  | cons q1 rr =>
    cases rr with
    | cons _ _ => exact p.elim
    | nil =>
      rename_i x dx
      obtain ⟨hc, p'⟩ := ifB (P := fun z : VRes => Post X.K W Fo A σ (z.at ρ) Q) p (fun z => z)
      clear p
      obtain ⟨a, dy', fs, rfl, hA⟩ := insIs_of q1 hc
      cases r with
      | cons r1 r2 =>
        cases r2
        cases r1
        obtain ⟨f, hs, hf, F⟩ := O.ok
        obtain ⟨mA, O', _⟩ := ins_get I.hok (S.ex _ _ hA)
        obtain ⟨od, J, _⟩ := O'.look
        obtain ⟨m, hF⟩ := I.fr
        refine PySem.W.len_K hF I.ok.mod.kin J hs hf ?_
        have p2 : Post X.K W Fo A σ ((callV c [dx]).at ρ) (fun v H' => ∃ n, v = .int n ∧ (0 ≤ n ∧ n < 2 ^ 63) ∧ Q (.int n) H') := by
          cases hv : callV c [dx] with
          | bad => rw [hv] at p'; exact p'
          | exc z => rw [hv] at p'; exact p'
          | ok r =>
            rw [hv] at p'
            cases r with
            | own m => exact p'.elim
            | val d =>
              cases d <;> first
                | exact p'.elim
                | (obtain ⟨hn, p3⟩ := ifB (P := fun z : VRes => Post X.K W Fo A σ (z.at ρ) Q) p' (fun z => z)
                   intro v A' H' e S' rv
                   cases rv with
                   | val rv => cases rv; exact ⟨_, rfl, hn, p3 _ A' H' e S' (.val (.int _))⟩)
        refine wpAny_mono (F.val1 (vs := [.ref a]) (us := [.ref a]) hr tk I S (.cons rfl .nil) (.cons q1 .nil) rfl p2) (fun r s' ⟨v, H', I', rv, n, e, hn, q⟩ => ?_) fun _ _ z => z
        subst e
        obtain ⟨t, rfl⟩ := rv
        exact ⟨hn, ⟨.int n, H', I'.tok _, ⟨_, rfl⟩, q⟩⟩
end

/-! ### a built-in's call by its data rule -/
section
variable {X : Cx} {W : WX} {x : Str} {p pos : Pos} {e : Expr} {es : List Expr} {args : List Arg} {id T : String} {g : List D → VRes}
theorem de_callBD (hc : CallD X W (.builtin id) g) (hg : Gl X x) (hm : X.mg x = none) (hv : bootBuiltins x = some (.builtin id)) (ha : DA X W (e :: es) args) (hn : x ≠ "__name__" := by decide) (hdb : (x == ("__debug__" : Str)) = false := by decide)
    (he : starEach (e :: es) X.env = (false, eval e X.env) :: starEach es X.env := by rfl) (hpl : (backTo pos (starEach es X.env)).any (·.1) = false := by rfl) : DE X W (.Call (.Name x p) (e :: es) [] pos) (dAll g args) := by
  refine ⟨fun pins s σ H Q I h => ?_⟩
  obtain ⟨Fo, A, ρ, S, q⟩ := h
  have h' : rdA X.K W args σ H fun vs H1 => ∃ A ρ ds, Sat X.K Fo A H1 σ ρ ∧ RepL X.K A vs ds ∧ Post X.K W Fo A σ ((g ds).at ρ) Q := ⟨Fo, A, ρ, S, post_all q fun vs ds A' H' ρ' e' S' ra p' => ⟨A', ρ', ds, S', ra, p'⟩⟩
  refine wpAny_Call_Name_kw (ld_blt I hg hm hv ?_ hn hdb)
  exact PyProof.Rows.callWith_builtin1 (thn (ha.run pos pins s σ H _ I h') fun us s1 ⟨vs, H1, I1, r1, A1, ρ1, ds, S1, ra, p1⟩ => hc pins s1 σ H1 Fo A1 ρ1 vs us ds Q I1 r1 S1 ra p1) he hpl
end

/-! ### properties -/
structure PropOk (P : Program) (w : World) (K : PySem.W.Frag) (mg : Str → Option Value) (base : Heap) (C : String) (f : Str) (k : Nat) (c : DEn) : Prop where
  cl : Cls K (He.ga K (Str.ofString C))
  ok : ∃ p g, PropOf K (He.ga K (Str.ofString C)) f p g ∧ FdOk P w K mg base k g 1 c
def ERes.noX : ERes → ERes
  | .ok r ρ => .ok r ρ
  | _ => .bad
def dProp (C : String) (c : DEn) (d : DEn) : DEn := fun ρ => (d ρ).bind fun x ρ1 => if insIs C x then (callAt c [.d x] ρ1).noX else .bad
/-- of slot i's own instance -/
def dPropO (i : Nat) (C : String) (c : DEn) : DEn := fun ρ => match ρ[i]? with
  | some (some (.own q)) => if insIs C q.toD then (callAt c [.l i] ρ).noX else .bad
  | _ => .bad
section
variable {X : Cx} {W : WX} {C : String} {f : Str} {k : Nat} {c : DEn} {pos : Pos}
theorem post_noX {K : PySem.W.Frag} {Fo A : Hp} {σ : L2.St} {r : ERes} {Q : VK} {W' : WX} (p : Post K W Fo A σ r.noX Q) : Post K W' Fo A σ r Q := by
  cases r with
  | ok r ρ => exact p
  | exc x ρ => exact p.elim
  | bad => exact p
theorem de_prop {e : Expr} {d : DEn} (O : PropOk X.prog X.w X.K X.mg X.base C f k c) (hr : Room (k + 1) X.A) (he : DE X W e d) (hab : attributeBase e f X.env (eval e X.env) = eval e X.env := by rfl) : DE X W (.Attribute e f pos) (dProp C c d) := by
  obtain ⟨cl, p, g, hp, fd, ps, F, hb, _⟩ := O
  refine PE.weak (pe_prop (dvs := []) (ds := []) (E := E0) he cl hp F hr hb .nil (passL (X := X.nox)) hab) fun σ H Q ⟨Fo, A, ρ, S, q⟩ => ⟨Fo, A, ρ, S, post_bind q fun x dx A1 H1 ρ1 e1 S1 r1 p1 => ?_⟩
  obtain ⟨hc, p1⟩ := ifB (P := fun z : ERes => Post X.K W Fo A1 σ z Q) p1 (fun z => z)
  obtain ⟨a, dy, fs, e, hA⟩ := insIs_of r1 hc
  subst e
  exact ⟨a, dy, fs, rfl, S1.ex _ _ hA, sp_call (W := fun _ _ _ _ => False) S1 (.d r1 .nil) rfl (post_noX p1)⟩
theorem de_propO {x : Str} {i : Nat} {px : Pos} (O : PropOk X.prog X.w X.K X.mg X.base C f k c) (hr : Room (k + 1) X.A) (he : PE X (.Name x px) (tVar i)) (hab : attributeBase (.Name x px) f X.env (eval (.Name x px) X.env) = eval (.Name x px) X.env := by rfl) : DE X W (.Attribute (.Name x px) f pos) (dPropO i C c) := by
  obtain ⟨cl, p, g, hp, fd, ps, F, hb, _⟩ := O
  refine PE.weak (pe_prop (dvs := []) (ds := []) (E := E0) he cl hp F hr hb .nil (passL (X := X.nox)) hab) fun σ H Q ⟨Fo, A, ρ, S, q⟩ => ?_
  unfold dPropO at q
  cases hi : ρ[i]? with
  | none => rw [hi] at q; exact q.elim
  | some o =>
    rw [hi] at q
    cases o with
    | none => exact q.elim
    | some r =>
      cases r with
      | val d => exact q.elim
      | own m =>
        replace q : Post X.K W Fo A σ (if insIs C m.toD then (callAt c [.l i] ρ).noX else .bad) Q := q
        obtain ⟨hc, q'⟩ := ifB (P := fun z : ERes => Post X.K W Fo A σ z Q) q (fun z => z)
        clear q
        obtain ⟨a, u, e1, e2, e3, e4, e5⟩ := S.own i m hi
        cases m <;> first
          | cases hc
          | (have e := of_decide_eq_true hc
             subst e
             cases e5
             exact ⟨.ref a, e1, a, _, _, rfl, e4, sp_call (W := fun _ _ _ _ => False) S (.l e1 .nil) rfl (post_noX q')⟩)
end

/-! ### isinstance -/
def tyI : D → Option Tn
  | .tup _ => some (.ty "tuple")
  | .fix _ => some (.ty "list")
  | d => tyD d
/-- a class whose instances isinstance may look at -/
structure ClsI (K : PySem.W.Frag) (C : Addr) : Prop where
  cl : Cls K C
  ha : PySem.W.findIn K (.ref C) "__class__" = some (some (.builtin "object.__class__"))
  hn : PySem.W.specialIn K (.builtin "object.__class__") "__get__" = some (some (.builtin "getset_descriptor.__get__"))
  ht : PySem.W.takesIn K (.builtin "object.__class__") = some true
  hm : PySem.W.mroIn K C (.type "object") = some true
/-- isinstance's answers: (the value's type, the class asked, the answer) -/
structure KitOk (K : PySem.W.Frag) (tab : List ((Tn × Tn) × Bool)) : Prop where
  ans : ∀ q ∈ tab, PySem.W.kitOne K (q.1.1.code K) (q.1.2.code K) = some q.2
  cls : ∀ q ∈ tab, ∀ C, q.1.1 = .cls C → ClsI K (He.ga K (Str.ofString C))
theorem tyX_of {K : PySem.W.Frag} {A H : Hp} {v : V} {d : D} {t : Tn} (e : Ex A H) (h : Rep K A v d) (ht : tyI d = some t) (hc : ∀ C, t = .cls C → ClsI K (He.ga K (Str.ofString C))) : TyX K H v (t.code K) := by
  cases h with
  | non => cases ht; exact .base .non
  | bl b => cases ht; exact .base (.bl _)
  | int i => cases ht; exact .base (.int _)
  | str i => cases ht; exact .base (.str _)
  | ty n => cases ht
  | adr n => cases ht
  | dif h n l => cases ht
  | lst h l => cases ht; exact .base (.lst (e _ _ h))
  | fix h l =>
    cases ht
    rcases Evl.ex_l e h with (h | ⟨o, h⟩) | ⟨o, its, n, h, hc, _⟩
    · exact .base (.lst h)
    · exact .base (.frz h)
    · exact .kList h hc
  | tup h l =>
    cases ht
    rcases Evl.ex_t e h with (h | ⟨o, h⟩) | ⟨o, its, n, h, hc, _⟩
    · exact .base (.tup h)
    · exact .fTuple h
    · exact .kTuple h hc
  | dic h n l => cases ht; exact .base (.dK (e _ _ h))
  | dit h n l => cases ht; exact .base (.dT (e _ _ h))
  | ins h n l =>
    cases ht
    obtain ⟨c1, c2, c3, c4, c5⟩ := hc _ rfl
    exact .base (.ins (e _ _ h) c1 c2 c3 c4 c5)
def gIsi (tab : List ((Tn × Tn) × Bool)) (c : Tn) (x : D) : VRes := match tyI x with
  | some t => (match tab.lookup (t, c) with
    | some b => .ok (.val (.bl b))
    | none => .bad)
  | none => .bad
theorem lookup_mem {α β : Type} [BEq α] [LawfulBEq α] {a : α} {b : β} : ∀ {l : List (α × β)}, l.lookup a = some b → (a, b) ∈ l
  | [], h => by cases h
  | (x, y) :: l, h => by
    rw [List.lookup] at h
    split at h
    · rename_i q
      have e := eq_of_beq q
      cases h; subst e; exact List.mem_cons_self
    · exact List.mem_cons_of_mem _ (lookup_mem h)
section
variable {X : Cx} {W : WX} {tab : List ((Tn × Tn) × Bool)}
/-- isinstance(e, C): C an expression that is a class -/
theorem de_isi {e ce : Expr} {d : DEn} {c : Tn} {cv : V} {p pos : Pos} (T : KitOk X.K tab) (hce : PE X ce (tC cv)) (hcv : ClsV cv (c.code X.K)) (hg : Gl X "isinstance") (hm : X.mg "isinstance" = none) (he : DE X W e d)
    (h1 : starEach [e, ce] X.env = (false, eval e X.env) :: starEach [ce] X.env := by rfl) (h2 : starEach [ce] X.env = (false, eval ce X.env) :: starEach [] X.env := by rfl) (hpl : (backTo pos (starEach [ce] X.env)).any (·.1) = false := by rfl) :
    DE X W (.Call (.Name "isinstance" p) [e, ce] [] pos) (dUn (gIsi tab c) d) := by
  refine PE.weak (pe_callB call_isi hg hm (by decide +kernel) (pa_cons he (pa_cons hce pa_nil h2) h1) (by decide) (by decide) h1 hpl) fun σ H Q ⟨Fo, A, ρ, S, q⟩ => ⟨Fo, A, ρ, S, post_bind q fun x dx A1 H1 ρ1 e1 S1 r1 p1 => ?_⟩
  unfold gIsi at p1
  cases ht : tyI dx with
  | none => rw [ht] at p1; exact p1.elim
  | some t =>
    rw [ht] at p1
    replace p1 : Post X.K W Fo A1 σ ((match tab.lookup (t, c) with
      | some b => VRes.ok (.val (.bl b))
      | none => .bad).at ρ1) Q := p1
    cases hl : tab.lookup (t, c) with
    | none => rw [hl] at p1; exact p1.elim
    | some b =>
      rw [hl] at p1
      have hmem := lookup_mem hl
      exact ⟨x, cv, _, _, b, rfl, hcv, tyX_of S1.ex r1 ht (fun C hC => T.cls _ hmem C hC), T.ans _ hmem, Post.now p1 S1 (.bl _)⟩
end
end DL

set_option maxRecDepth 100000
set_option maxHeartbeats 2000000
/-! DL8: targets, what is walked, comprehensions. -/
namespace DL
open PySem PySem.Spec L2
open Evl (Ex)

section
variable {K : PySem.W.Frag} {W : WX} {Fo A A' H H' : Hp} {σ σ' : L2.St} {ρ ρ' : Slots}
/-- slot i holds v now -/
theorem Sat.setR {i : Nat} {v : V} {r : R} (S : Sat K Fo A H σ ρ) (h : RepR K Fo A H σ ρ v r) : Sat K Fo A H (σ.set i (some v)) (ρ.set i (some r)) := by
  have gt : ∀ {α : Type} (l : List α) (j : Nat) (x y : α), (l.set i x)[j]? = some y → (i = j ∧ y = x ∧ i < l.length) ∨ (i ≠ j ∧ l[j]? = some y) := fun l j x y h => by
    rw [List.getElem?_set] at h
    split at h
    · rename_i e
      split at h
      · rename_i hl; exact .inl ⟨e, (Option.some.inj h).symm, hl⟩
      · cases h
    · rename_i e; exact .inr ⟨e, h⟩
  have same : i < ρ.length → (σ.set i (some v))[i]? = some (some v) := fun hl => by rw [List.getElem?_set_self (by rw [S.len]; exact hl)]
  refine ⟨S.ex, S.fo, by rw [List.length_set, List.length_set]; exact S.len, fun j d q => ?_, fun j m q => ?_, fun j k m m' a q1 q2 q3 q4 => ?_⟩
  · rcases gt _ j _ _ q with ⟨e, e2, hl⟩ | ⟨e, q⟩
    · subst e
      cases e2
      cases h with
      | val h => exact ⟨v, same hl, h⟩
    · obtain ⟨u, e1, e2⟩ := S.val j d q
      exact ⟨u, by rw [List.getElem?_set_ne e]; exact e1, e2⟩
  · rcases gt _ j _ _ q with ⟨e, e2, hl⟩ | ⟨e, q⟩
    · subst e
      cases e2
      cases h with
      | own h1 h2 h3 h4 h5 => exact ⟨_, _, same hl, h1, h2, h3, h4⟩
    · obtain ⟨a, o, e1, r⟩ := S.own j m q
      exact ⟨a, o, by rw [List.getElem?_set_ne e]; exact e1, r⟩
  · rcases gt _ j _ _ q1 with ⟨e, e2, hl⟩ | ⟨e, p1⟩
    · subst e
      cases e2
      rw [same hl] at q3; cases q3
      rcases gt _ k _ _ q2 with ⟨f, f2, _⟩ | ⟨f, q2⟩
      · exact f
      · rw [List.getElem?_set_ne f] at q4
        cases h with
        | own h1 h2 h3 h4 h5 => exact absurd q4 (h5 k m' q2)
    · rw [List.getElem?_set_ne e] at q3
      rcases gt _ k _ _ q2 with ⟨f, f2, hl⟩ | ⟨f, p2⟩
      · subst f
        cases f2
        rw [same hl] at q4; cases q4
        cases h with
        | own h1 h2 h3 h4 h5 => exact absurd q3 (h5 j m p1)
      · rw [List.getElem?_set_ne f] at q4
        exact S.inj j k m m' a p1 p2 q3 q4
theorem Sat.setD {i : Nat} {v : V} {d : D} (S : Sat K Fo A H σ ρ) (h : Rep K A v d) : Sat K Fo A H (σ.set i (some v)) (ρ.set i (some (.val d))) := S.setR (.val h)
/-- what is known of the slots may be forgotten -/
theorem Sat.forget (S : Sat K Fo A H σ ρ) (hl : ρ'.length = ρ.length) (w : ∀ (i : Nat) (r : R), ρ'[i]? = some (some r) → ρ[i]? = some (some r)) : Sat K Fo A H σ ρ' :=
  ⟨S.ex, S.fo, S.len.trans hl.symm, fun i d q => S.val i d (w i _ q), fun i m q => S.own i m (w i _ q), fun i j m m' a q1 q2 => S.inj i j m m' a (w i _ q1) (w j _ q2)⟩
/-- other slots -/
theorem Sat.slots (S : Sat K Fo A H σ ρ) (hl : σ'.length = σ.length) (w : ∀ (i : Nat) (r : R), ρ[i]? = some (some r) → σ'[i]? = σ[i]?) : Sat K Fo A H σ' ρ :=
  ⟨S.ex, S.fo, hl.trans S.len, fun i d q => let ⟨v, e1, e2⟩ := S.val i d q; ⟨v, (w i _ q).trans e1, e2⟩, fun i m q => let ⟨a, o, e1, r⟩ := S.own i m q; ⟨a, o, (w i _ q).trans e1, r⟩,
    fun i j m m' a q1 q2 q3 q4 => S.inj i j m m' a q1 q2 ((w i _ q1).symm.trans q3) ((w j _ q2).symm.trans q4)⟩
end
def wipeD (ρ : Slots) : List Nat → Slots
  | [] => ρ
  | v :: vs => (wipeD ρ vs).set v none
theorem wipeD_len (ρ : Slots) : ∀ vs : List Nat, (wipeD ρ vs).length = ρ.length
  | [] => rfl
  | v :: vs => by show ((wipeD ρ vs).set v none).length = _; rw [List.length_set, wipeD_len ρ vs]
theorem wipeD_some {ρ : Slots} {i : Nat} {r : R} : ∀ {vs : List Nat}, (wipeD ρ vs)[i]? = some (some r) → ρ[i]? = some (some r) ∧ i ∉ vs
  | [], h => ⟨h, by simp⟩
  | v :: vs, h => by
    replace h : ((wipeD ρ vs).set v none)[i]? = some (some r) := h
    rw [List.getElem?_set] at h
    split at h
    · split at h <;> cases h
    · rename_i e
      obtain ⟨h1, h2⟩ := wipeD_some h
      exact ⟨h1, by simp only [List.mem_cons, not_or]; exact ⟨fun q => e q.symm, h2⟩⟩
theorem wipe_get {σ : L2.St} {i : Nat} : ∀ {vs : List Nat}, i ∉ vs → (wipe σ vs)[i]? = σ[i]?
  | [], _ => rfl
  | v :: vs, h => by
    show ((wipe σ vs).set v none)[i]? = _
    rw [List.getElem?_set_ne (fun e => h (by rw [e]; exact List.mem_cons_self))]
    exact wipe_get fun q => h (List.mem_cons_of_mem _ q)
theorem Sat.wipe {K : PySem.W.Frag} {Fo A H : Hp} {σ : L2.St} {ρ : Slots} (S : Sat K Fo A H σ ρ) (vs : List Nat) : Sat K Fo A H (wipe σ vs) (wipeD ρ vs) :=
  (S.forget (wipeD_len ρ vs) fun i r h => (wipeD_some h).1).slots (wipe_length σ vs) fun i r h => wipe_get (wipeD_some h).2
theorem Sat.unwipe {K : PySem.W.Frag} {Fo A H : Hp} {σ : L2.St} {ρ : Slots} {vs : List Nat} (S : Sat K Fo A H (L2.wipe σ vs) ρ) : Sat K Fo A H σ ρ := by
  refine S.slots (wipe_length σ vs).symm fun i r h => ?_
  cases r with
  | val d =>
    obtain ⟨v, e, _⟩ := S.val i d h
    rw [e]; exact (wipe_some e).1
  | own m =>
    obtain ⟨a, o, e, _⟩ := S.own i m h
    rw [e]; exact (wipe_some e).1

/-! ### targets -/
mutual
inductive Tg where
  | name (i : Nat)
  | tup (ts : Tgs)
inductive Tgs where
  | nil
  | cons (t : Tg) (ts : Tgs)
end
def Tgs.length : Tgs → Nat
  | .nil => 0
  | .cons _ ts => ts.length + 1
mutual
def Tg.slots : Tg → List Nat
  | .name i => [i]
  | .tup ts => ts.slots
def Tgs.slots : Tgs → List Nat
  | .nil => []
  | .cons t ts => t.slots ++ ts.slots
end
mutual
def Tg.asg : Tg → D → Slots → Option Slots
  | .name i, d, ρ => some (ρ.set i (some (.val d)))
  | .tup ts, .tup ds, ρ => if ds.length = ts.length then ts.asg ds ρ else none
  | .tup _, _, _ => none
def Tgs.asg : Tgs → List D → Slots → Option Slots
  | .nil, [], ρ => some ρ
  | .cons t ts, d :: ds, ρ => (t.asg d ρ).bind fun ρ1 => ts.asg ds ρ1
  | _, _, _ => none
end
/-- but for these slots the same -/
def Off (l : List Nat) (σ σ' : L2.St) : Prop := σ'.length = σ.length ∧ ∀ i, i ∉ l → σ'[i]? = σ[i]?
theorem Off.refl (l : List Nat) (σ : L2.St) : Off l σ σ := ⟨rfl, fun _ _ => rfl⟩
theorem Off.mono {l l' : List Nat} {σ σ' : L2.St} (h : Off l σ σ') (k : ∀ i ∈ l, i ∈ l') : Off l' σ σ' := ⟨h.1, fun i hi => h.2 i fun q => hi (k i q)⟩
theorem Off.trans {l : List Nat} {σ σ' σ'' : L2.St} (h : Off l σ σ') (k : Off l σ' σ'') : Off l σ σ'' := ⟨k.1.trans h.1, fun i hi => (k.2 i hi).trans (h.2 i hi)⟩
theorem Off.wipe {l : List Nat} : ∀ {vs : List Nat} {σ σ' : L2.St}, Off l σ σ' → (∀ i ∈ l, i ∈ vs) → L2.wipe σ' vs = L2.wipe σ vs := fun {vs σ σ'} h k => by
  apply List.ext_getElem?
  intro i
  by_cases hi : i ∈ vs
  · have no : ∀ (τ : L2.St) (x : V), (L2.wipe τ vs)[i]? ≠ some (some x) := fun τ x q => (wipe_some q).2 hi
    have len : (L2.wipe σ' vs).length = (L2.wipe σ vs).length := by rw [wipe_length, wipe_length]; exact h.1
    by_cases hl : i < (L2.wipe σ vs).length
    · have e1 := List.getElem?_eq_getElem hl
      have e2 := List.getElem?_eq_getElem (show i < (L2.wipe σ' vs).length by rw [len]; exact hl)
      rw [e1, e2]
      cases q1 : (L2.wipe σ vs)[i] with
      | some x => rw [q1] at e1; exact absurd e1 (no σ x)
      | none =>
        cases q2 : (L2.wipe σ' vs)[i]'(by rw [len]; exact hl) with
        | some x => rw [q2] at e2; exact absurd e2 (no σ' x)
        | none => rfl
    · rw [List.getElem?_eq_none (by omega), List.getElem?_eq_none (by omega)]
  · rw [wipe_get hi, wipe_get hi]
    exact h.2 i fun q => hi (k i q)
def rdG (K : PySem.W.Frag) (t : Tg) : TG := fun v σ H Q => ∃ Fo A ρ d ρ', Sat K Fo A H σ ρ ∧ Rep K A v d ∧ t.asg d ρ = some ρ' ∧ ∀ σ', Sat K Fo A H σ' ρ' → Off t.slots σ σ' → Q σ' H
def rdGs (K : PySem.W.Frag) (t : Tgs) : TGs := fun vs σ H Q => ∃ Fo A ρ ds ρ', Sat K Fo A H σ ρ ∧ RepL K A vs ds ∧ t.asg ds ρ = some ρ' ∧ ∀ σ', Sat K Fo A H σ' ρ' → Off t.slots σ σ' → Q σ' H
def DG (X : Cx) (tg : Expr) (t : Tg) : Prop := PG X tg (rdG X.K t)
def DGs (X : Cx) (tg : List Expr) (t : Tgs) : Prop := PGs X tg (rdGs X.K t)
section
variable {X : Cx}
theorem PG.weak {e : Expr} {t u : TG} (h : PG X e t) (w : ∀ v σ H Q, u v σ H Q → t v σ H Q) : PG X e u := ⟨fun pins s σ H v u Q I r q => h.run pins s σ H v u Q I r (w _ _ _ _ q)⟩
theorem PGs.weak {e : List Expr} {t u : TGs} (h : PGs X e t) (w : ∀ v σ H Q, u v σ H Q → t v σ H Q) : PGs X e u := ⟨fun pins s σ H v u Q I r q => h.run pins s σ H v u Q I r (w _ _ _ _ q)⟩
theorem dg_name {i : Nat} {e : Expr} (h : PG X e (gName i)) : DG X e (.name i) := PG.weak h fun v σ H Q ⟨Fo, A, ρ, d, ρ', S, r, e, k⟩ => by
  cases e
  exact k _ (S.setD r) ⟨by rw [List.length_set], fun j hj => List.getElem?_set_ne (fun q => hj (by rw [q]; exact List.mem_cons_self))⟩
theorem dgs_nil : DGs X [] .nil := PGs.weak pgs_nil fun v σ H Q ⟨Fo, A, ρ, ds, ρ', S, r, e, k⟩ => by
  cases r with
  | nil => cases e; exact ⟨rfl, k σ S (Off.refl _ _)⟩
  | cons _ _ => cases e
theorem dgs_cons {e : Expr} {es : List Expr} {t : Tg} {ts : Tgs} (h1 : DG X e t) (h2 : DGs X es ts) (hs : (assignEach (e :: es) X.env).map (·.2) = assign e X.env :: (assignEach es X.env).map (·.2) := by rfl) : DGs X (e :: es) (.cons t ts) :=
  PGs.weak (pgs_cons h1 h2 hs) fun v σ H Q ⟨Fo, A, ρ, ds, ρ', S, r, e, k⟩ => by
    cases r with
    | nil => cases e
    | @cons v d vs ds h r =>
      obtain ⟨ρ1, e1, e2⟩ := Option.bind_eq_some_iff.mp (show (t.asg d ρ).bind (fun ρ1 => ts.asg ds ρ1) = some ρ' from e)
      refine ⟨v, vs, rfl, Fo, A, ρ, d, ρ1, S, h, e1, fun σ1 S1 o1 => ⟨Fo, A, ρ1, ds, ρ', S1, r, e2, fun σ2 S2 o2 => k σ2 S2 ?_⟩⟩
      exact (o1.mono fun i hi => List.mem_append_left _ hi).trans (o2.mono fun i hi => List.mem_append_right _ hi)
theorem dg_tup {es : List Expr} {k : Nat} {ts : Tgs} {pos : Pos} (hc : X.calm = true) (h : DGs X es ts) (hn : (assignEach es X.env).length = ts.length := by rfl) (hst : (assignEach es X.env).findIdx? (·.1) = none := by rfl) : DG X (.Tuple es k pos) (.tup ts) :=
  PG.weak (pg_tup hc h hn hst) fun v σ H Q ⟨Fo, A, ρ, d, ρ', S, r, e, k⟩ => by
    cases r with
    | @tup a xs ds h l =>
      replace e : (if ds.length = ts.length then ts.asg ds ρ else none) = some ρ' := e
      by_cases hl : ds.length = ts.length
      · rw [if_pos hl] at e
        exact ⟨a, xs, rfl, Evl.ex_t S.ex h, by rw [l.length]; exact hl, Fo, A, ρ, ds, ρ', S, l, e, k⟩
      · rw [if_neg hl] at e; cases e
    | _ => cases e
end

/-! ### what is walked -/
structure ItD (K : PySem.W.Frag) (J : It) (A : Hp) (ds : List D) : Prop where
  go : ∀ i H, Ex A H → i < ds.length → J.go i H
  stop : ∀ i H, Ex A H → ds.length ≤ i → J.stop i H
  yld : ∀ (i : Nat) (H : Hp) (x : V) (H' Fo A' : Hp) (σ : L2.St) (ρ : Slots) (d : D), Ex A A' → Sat K Fo A' H σ ρ → ds[i]? = some d → J.yld i H x H' → ∃ A'', Ex A' A'' ∧ Sat K Fo A'' H' σ ρ ∧ Rep K A'' x d
theorem ItD.ext {K : PySem.W.Frag} {J : It} {A A' : Hp} {ds : List D} (h : ItD K J A ds) (e : Ex A A') : ItD K J A' ds :=
  ⟨fun i H q => h.go i H (e.trans q), fun i H q => h.stop i H (e.trans q), fun i H x H' Fo A2 σ ρ d q => h.yld i H x H' Fo A2 σ ρ d (e.trans q)⟩
inductive IRes where
  | ok (ds : List D) (ρ : Slots)
  | exc (x : Xc) (ρ : Slots)
  | bad
abbrev DSrc := Slots → IRes
def rdI (K : PySem.W.Frag) (W : WX) (src : DSrc) : TI := fun σ H R => ∃ Fo A ρ, Sat K Fo A H σ ρ ∧ match src ρ with
  | .ok ds ρ' => ∀ J A' H', Ex A A' → Sat K Fo A' H' σ ρ' → ItD K J A' ds → R J H'
  | .exc x ρ' => ∀ cls dct A' H', Ex A A' → Sat K Fo A' H' σ ρ' → RepX K A' cls dct x → W cls dct σ H'
  | .bad => False
def DI (X : Cx) (W : WX) (tg it : Expr) (src : DSrc) : Prop := PI X tg it (rdI X.K W src)
theorem PI.weak {X : Cx} {tg it : Expr} {t u : TI} (h : PI X tg it t) (w : ∀ σ H R, u σ H R → t σ H R) : PI X tg it u := ⟨fun pins s σ H R I q => h.run pins s σ H R I (w _ _ _ q)⟩
def srcOf (g : D → Option (List D)) (d : DEn) : DSrc := fun ρ => match d ρ with
  | .ok r ρ1 => (match g r.toD with
    | some ds => .ok ds ρ1
    | none => .bad)
  | .exc x ρ1 => .exc x ρ1
  | .bad => .bad
def gLstI : D → Option (List D)
  | .lst xs => some xs
  | .fix xs => some xs
  | _ => none
def gTupI : D → Option (List D)
  | .tup xs => some xs
  | _ => none
theorem itd_l {K : PySem.W.Frag} {A : Hp} {a : Addr} {xs : List V} {ds : List D} (h : ∀ H, Ex A H → SqL K H a xs) (r : RepL K A xs ds) : ItD K (Itl K a) A ds where
  go := fun i H e hi => by
    have hx : i < xs.length := by rw [r.length]; exact hi
    exact ⟨xs, xs[i], h H e, List.getElem?_eq_getElem hx⟩
  stop := fun i H e hi => ⟨xs, h H e, by rw [r.length]; exact hi⟩
  yld := fun i H x H' Fo A' σ ρ d e S hd hy => by
    obtain ⟨rfl, hx⟩ := hy
    obtain ⟨v, e1, e2⟩ := r.get hd
    have e3 := hx xs (h H' (e.trans S.ex))
    rw [e1] at e3; cases e3
    exact ⟨A', Evl.Ex.refl _, S, e2.mn e⟩
theorem itd_t {K : PySem.W.Frag} {A : Hp} {a : Addr} {xs : List V} {ds : List D} (h : SqT K A a xs) (r : RepL K A xs ds) : ItD K (Itt K a) A ds where
  go := fun i H e hi => by
    have hx : i < xs.length := by rw [r.length]; exact hi
    exact ⟨xs, xs[i], Evl.ex_t e h, List.getElem?_eq_getElem hx⟩
  stop := fun i H e hi => ⟨xs, Evl.ex_t e h, by rw [r.length]; exact hi⟩
  yld := fun i H x H' Fo A' σ ρ d e S hd hy => by
    obtain ⟨rfl, hx⟩ := hy
    obtain ⟨v, e1, e2⟩ := r.get hd
    have e3 := hx xs (Evl.ex_t (e.trans S.ex) h)
    rw [e1] at e3; cases e3
    exact ⟨A', Evl.Ex.refl _, S, e2.mn e⟩
section
variable {X : Cx} {W : WX} {tg e : Expr} {d : DEn}
theorem rdI_of {K : PySem.W.Frag} {g : D → Option (List D)} {σ : L2.St} {H : Hp} {R' : It → Hp → Prop} {Q : VK} (h : rdI K W (srcOf g d) σ H R')
    (k : ∀ v dd ds Fo A H ρ, Sat K Fo A H σ ρ → Rep K A v dd → g dd = some ds → (∀ J A' H', Ex A A' → Sat K Fo A' H' σ ρ → ItD K J A' ds → R' J H') → Q v H) : rd K W d σ H Q := by
  obtain ⟨Fo, A, ρ, S, p⟩ := h
  refine ⟨Fo, A, ρ, S, Post.toVal ?_⟩
  unfold srcOf at p
  cases hd : d ρ with
  | bad => rw [hd] at p; exact p
  | exc x ρ1 => rw [hd] at p; exact p
  | ok r ρ1 =>
    rw [hd] at p
    dsimp only at p
    intro v A' H' e S' rv
    cases rv with
    | val rv =>
      cases hg : g r.toD with
      | none => rw [hg] at p; exact p.elim
      | some ds => rw [hg] at p; exact k v _ ds Fo A' H' ρ1 S' rv hg fun J A2 H2 e2 S2 i2 => p J A2 H2 (e.trans e2) S2 i2
theorem di_list (he : DE X W e d) : DI X W tg e (srcOf gLstI d) := PI.weak (pi_list he) fun σ H R' h => rdI_of h fun v dd ds Fo A H ρ S r hg k => by
  cases r with
  | @lst a xs ds' h l => cases hg; exact ⟨a, rfl, ⟨xs, .inl (.inl (S.ex _ _ h))⟩, k _ A H (Evl.Ex.refl A) S (itd_l (fun H e => .inl (.inl (e _ _ h))) l)⟩
  | @fix a xs ds' h l => cases hg; exact ⟨a, rfl, ⟨xs, Evl.ex_l S.ex h⟩, k _ A H (Evl.Ex.refl A) S (itd_l (fun H e => Evl.ex_l e h) l)⟩
  | _ => cases hg
theorem di_tup (he : DE X W e d) : DI X W tg e (srcOf gTupI d) := PI.weak (pi_tup he) fun σ H R' h => rdI_of h fun v dd ds Fo A H ρ S r hg k => by
  cases r with
  | @tup a xs ds' h l => cases hg; exact ⟨a, rfl, ⟨xs, Evl.ex_t S.ex h⟩, k _ A H (Evl.Ex.refl A) S (itd_t h l)⟩
  | _ => cases hg
def rangeD (lo : Int) (n : Nat) : List D := (List.range n).map fun (i : Nat) => D.int (lo + (i : Int))
theorem itd_r {K : PySem.W.Frag} {A : Hp} {lo : Int} {n : Nat} : ItD K (Itr lo n) A (rangeD lo n) where
  go := fun i H e hi => by unfold rangeD at hi; exact (show i < n by simpa using hi)
  stop := fun i H e hi => by unfold rangeD at hi; exact (show n ≤ i by simpa using hi)
  yld := fun i H x H' Fo A' σ ρ d e S hd hy => by
    obtain ⟨rfl, rfl⟩ := hy
    unfold rangeD at hd
    rw [List.getElem?_map] at hd
    cases q : (List.range n)[i]? with
    | none => rw [q] at hd; cases hd
    | some j =>
      rw [q] at hd
      cases hd
      have : j = i := by
        rw [List.getElem?_range (by have := (List.getElem?_eq_some_iff.mp q).1; simpa using this)] at q
        exact (Option.some.inj q).symm
      subst this
      exact ⟨A', Evl.Ex.refl _, S, .int _⟩
/-- range(a), range(a, b) -/
def srcA (k : List D → Slots → IRes) (args : List Arg) : DSrc := fun ρ => match runArgs args ρ with
  | .ok as ρ1 => (match dsOf as with
    | some ds => k ds ρ1
    | none => .bad)
  | .exc x ρ1 => .exc x ρ1
  | .bad => .bad
noncomputable def kR1 : List D → Slots → IRes
  | [.int j], ρ1 => @ite _ (-(2 ^ 62) ≤ j ∧ j < 2 ^ 62) (Classical.propDecidable _) (.ok (rangeD 0 j.toNat) ρ1) .bad
  | _, _ => .bad
noncomputable def kR2 : List D → Slots → IRes
  | [.int i, .int j], ρ1 => @ite _ (-(2 ^ 62) ≤ i ∧ i < 2 ^ 62 ∧ -(2 ^ 62) ≤ j ∧ j < 2 ^ 62) (Classical.propDecidable _) (.ok (rangeD i (j - i).toNat) ρ1) .bad
  | _, _ => .bad
noncomputable abbrev srcR1 (args : List Arg) : DSrc := srcA kR1 args
noncomputable abbrev srcR2 (args : List Arg) : DSrc := srcA kR2 args
theorem runA_of {K : PySem.W.Frag} {args : List Arg} {σ : L2.St} {H Fo A : Hp} {ρ : Slots} {src : DSrc} {R' : It → Hp → Prop} {Q' : List V → Hp → Prop} {k : List D → Slots → IRes}
    (he : ∀ ρ, src ρ = match runArgs args ρ with
      | .ok as ρ1 => (match dsOf as with
        | some ds => k ds ρ1
        | none => .bad)
      | .exc x ρ1 => .exc x ρ1
      | .bad => .bad)
    (p : match src ρ with
      | .ok ds ρ' => ∀ J A' H', Ex A A' → Sat K Fo A' H' σ ρ' → ItD K J A' ds → R' J H'
      | .exc x ρ' => ∀ cls dct A' H', Ex A A' → Sat K Fo A' H' σ ρ' → RepX K A' cls dct x → W cls dct σ H'
      | .bad => False)
    (h : ∀ vs ds A' H' ρ', Ex A A' → Sat K Fo A' H' σ ρ' → RepL K A' vs ds → (match k ds ρ' with
      | .ok ds ρ' => ∀ J A' H', Ex A A' → Sat K Fo A' H' σ ρ' → ItD K J A' ds → R' J H'
      | .exc x ρ' => ∀ cls dct A' H', Ex A A' → Sat K Fo A' H' σ ρ' → RepX K A' cls dct x → W cls dct σ H'
      | .bad => False) → Q' vs H') : PostA K W Fo A σ (runArgs args ρ) Q' := by
  rw [he] at p
  cases ha : runArgs args ρ with
  | bad => rw [ha] at p; exact p
  | exc x ρ1 => rw [ha] at p; exact p
  | ok as ρ1 =>
    rw [ha] at p
    dsimp only at p
    cases hd : dsOf as with
    | none => rw [hd] at p; exact p.elim
    | some ds =>
      rw [hd] at p
      exact fun vs A' H' e S' ra => h vs ds A' H' ρ1 e S' (ra.all hd) p
theorem di_range1 {p pos : Pos} {a : Expr} {args : List Arg} (hg : Gl X "range") (hm : X.mg "range" = none) (ha : DA X W [a] args) (na : starEach [a] X.env = [(false, eval a X.env)] := by rfl) : DI X W tg (.Call (.Name "range" p) [a] [] pos) (srcR1 args) :=
  PI.weak (pi_range1 hg hm ha na) fun σ H R' ⟨Fo, A, ρ, S, p⟩ => ⟨Fo, A, ρ, S, runA_of (H := H) (k := kR1) (fun ρ => rfl) p fun vs ds A' H' ρ' e S' r q => by
    cases r with
    | nil => exact q.elim
    | cons h r =>
      cases r with
      | cons _ _ => cases h <;> exact q.elim
      | nil =>
        cases h with
        | int j =>
          unfold kR1 at q
          dsimp only at q
          by_cases hj : -(2 ^ 62) ≤ j ∧ j < 2 ^ 62
          · rw [if_pos hj] at q
            exact ⟨j, rfl, hj.1, hj.2, q _ A' H' e S' itd_r⟩
          · rw [if_neg hj] at q; exact q.elim
        | _ => exact q.elim⟩
theorem di_range2 {p pos : Pos} {a b : Expr} {args : List Arg} (hg : Gl X "range") (hm : X.mg "range" = none) (ha : DA X W [a, b] args) (na : starEach [a, b] X.env = [(false, eval a X.env), (false, eval b X.env)] := by rfl) (hp : starEach [b] X.env = [(false, eval b X.env)] := by rfl) : DI X W tg (.Call (.Name "range" p) [a, b] [] pos) (srcR2 args) :=
  PI.weak (pi_range2 hg hm ha na hp) fun σ H R' ⟨Fo, A, ρ, S, p⟩ => ⟨Fo, A, ρ, S, runA_of (H := H) (k := kR2) (fun ρ => rfl) p fun vs ds A' H' ρ' e S' r q => by
    cases r with
    | nil => exact q.elim
    | cons h r =>
      cases r with
      | nil => cases h <;> exact q.elim
      | cons h2 r =>
        cases r with
        | cons _ _ => cases h <;> first | exact q.elim | (cases h2 <;> exact q.elim)
        | nil =>
          cases h with
          | int i =>
            cases h2 with
            | int j =>
              unfold kR2 at q
              dsimp only at q
              by_cases hj : -(2 ^ 62) ≤ i ∧ i < 2 ^ 62 ∧ -(2 ^ 62) ≤ j ∧ j < 2 ^ 62
              · rw [if_pos hj] at q
                exact ⟨i, j, rfl, hj, q _ A' H' e S' itd_r⟩
              · rw [if_neg hj] at q; exact q.elim
            | _ => exact q.elim
          | _ => cases h2 <;> exact q.elim⟩
end

/-! ### things that stay as they are meanwhile -/
section
variable {K : PySem.W.Frag} {Fo A A' H H' : Hp} {σ : L2.St} {ρ : Slots} {a : Addr} {o o' : HO}
theorem Sat.lock (S : Sat K Fo A H σ ρ) (h1 : A a = none) (h3 : H a = some o) (h5 : Apart σ ρ a) : Sat K (upd Fo a o) A H σ ρ :=
  ⟨S.ex, fun b u e => by
    by_cases hb : b = a
    · subst hb; rw [upd_same] at e; cases e; exact ⟨h3, h1⟩
    · rw [upd_ne hb] at e; exact S.fo b u e, S.len, S.val, fun i m q => by
    obtain ⟨b, u, e1, e2, e3, e4, e5⟩ := S.own i m q
    have nb : b ≠ a := fun z => by subst z; exact h5 i m q e1
    exact ⟨b, u, e1, e2, by rw [upd_ne nb]; exact e3, e4, e5⟩, S.inj⟩
theorem Sat.unlock (S : Sat K (upd Fo a o) A H σ ρ) (hf : Fo a = none) : Sat K Fo A H σ ρ ∧ A a = none ∧ H a = some o ∧ Apart σ ρ a := by
  obtain ⟨h1, h2⟩ := S.fo a o upd_same
  refine ⟨⟨S.ex, fun b u e => S.fo b u (by rw [upd_ne (fun z => by subst z; rw [hf] at e; cases e)]; exact e), S.len, S.val, fun i m q => ?_, S.inj⟩, h2, h1, fun i m q z => ?_⟩
  · obtain ⟨b, u, e1, e2, e3, e4, e5⟩ := S.own i m q
    have nb : b ≠ a := fun z => by subst z; rw [upd_same] at e3; cases e3
    rw [upd_ne nb] at e3
    exact ⟨b, u, e1, e2, e3, e4, e5⟩
  · obtain ⟨b, u, e1, e2, e3, e4, e5⟩ := S.own i m q
    rw [z] at e1; cases e1
    rw [upd_same] at e3; cases e3
theorem Sat.relock (S : Sat K (upd Fo a o) A H σ ρ) : Sat K (upd Fo a o') A (upd H a o') σ ρ := by
  obtain ⟨h1, h2⟩ := S.fo a o upd_same
  have ap : ∀ (i : Nat) (m : M), ρ[i]? = some (some (R.own m)) → σ[i]? ≠ some (some (V.ref a)) := fun i m q z => by
    obtain ⟨b, u, e1, e2, e3, e4, e5⟩ := S.own i m q
    rw [z] at e1; cases e1
    rw [upd_same] at e3; cases e3
  refine ⟨fun b u e => ?_, fun b u e => ?_, S.len, S.val, fun i m q => ?_, S.inj⟩
  · have nb : b ≠ a := fun z => by subst z; rw [h2] at e; cases e
    rw [upd_ne nb]; exact S.ex b u e
  · by_cases hb : b = a
    · subst hb; rw [upd_same] at e ⊢; exact ⟨e, h2⟩
    · rw [upd_ne hb] at e ⊢
      exact S.fo b u (by rw [upd_ne hb]; exact e)
  · obtain ⟨b, u, e1, e2, e3, e4, e5⟩ := S.own i m q
    have nb : b ≠ a := fun z => by subst z; exact ap i m q e1
    rw [upd_ne nb] at e3
    exact ⟨b, u, e1, e2, by rw [upd_ne nb]; exact e3, by rw [upd_ne nb]; exact e4, e5⟩
end

/-! ### list comprehensions -/
def runLc (vs : List Nat) (tg : Tg) (tt te : DEn) : List D → Slots → List D → ERes
  | [], ρ, acc => .ok (.own (.lst acc)) ρ
  | x :: xs, ρ, acc => match tg.asg x ρ with
    | none => .bad
    | some ρ0 => (tt ρ0).noX.bind fun b ρ1 => match b with
      | .bl true => (te ρ1).noX.bind fun y ρ2 => if acc.length < sizeLine then runLc vs tg tt te xs (wipeD ρ2 vs) (acc ++ [y]) else .bad
      | .bl false => runLc vs tg tt te xs (wipeD ρ1 vs) acc
      | _ => .bad
def dLc (src : DSrc) (vs : List Nat) (tg : Tg) (tt te : DEn) : DEn := fun ρ => match src ρ with
  | .ok ds ρ1 => runLc vs tg tt te ds (wipeD ρ1 vs) []
  | .exc x ρ1 => .exc x ρ1
  | .bad => .bad
abbrev W0 : WX := fun _ _ _ _ => False
theorem wipe_wipe (σ : L2.St) (vs : List Nat) : wipe (wipe σ vs) vs = wipe σ vs := Off.wipe (l := vs) ⟨wipe_length σ vs, fun i hi => wipe_get hi⟩ fun _ h => h
theorem lc_reading {K : PySem.W.Frag} {W : WX} {tg : Tg} {vs : List Nat} {tt te : DEn} {J : It} {ds : List D} {Fo A1 H1 : Hp} {σ : L2.St} {ρ1 : Slots} {Q : VK} {Dl : Addr} (hsub : ∀ i ∈ tg.slots, i ∈ vs) (S1 : Sat K Fo A1 H1 σ ρ1) (it : ItD K J A1 ds) (hD : H1 Dl = none)
    (p : Post K W Fo A1 σ (runLc vs tg tt te ds (wipeD ρ1 vs) []) Q) :
    ∃ Wv : Nat → Nat → Hp → Prop, (∃ m, Wv 0 m (upd H1 Dl (.lst []))) ∧ ∀ i m H, Wv i m H →
      (J.stop i H ∧ Q (.ref Dl) H) ∨ (J.go i H ∧ ∃ Nx : Hp → Prop, (∀ H', Nx H' → ∃ m', m' < m ∧ Wv (i + 1) m' H') ∧ ∀ x H', J.yld i H x H' → rdG K tg x (wipe σ vs) H' fun σ2 H2 => wipe σ2 vs = wipe σ vs ∧ tB (rd K W0 tt) σ2 H2 fun b H3 =>
        if b = true then rd K W0 te σ2 H3 fun y H4 => ∃ acc, H4 Dl = some (.lst acc) ∧ acc.length < sizeLine ∧ Nx (upd H4 Dl (.lst (acc ++ [y]))) else Nx H3) := by
  have hF : Fo Dl = none := S1.freeF hD
  refine ⟨fun i m H => m = ds.length - i ∧ i ≤ ds.length ∧ ∃ A' ρ' acc accV, Ex A1 A' ∧ Sat K (upd Fo Dl (.lst accV)) A' H (wipe σ vs) ρ' ∧ RepL K A' accV acc ∧ Post K W Fo A' σ (runLc vs tg tt te (ds.drop i) ρ' acc) Q, ?_, fun i m H hW => ?_⟩
  · refine ⟨ds.length, by omega, Nat.zero_le _, A1, _, [], [], Evl.Ex.refl _, ?_, .nil, p⟩
    have S2 := (S1.wipe vs).fresh (o := .lst []) hD
    exact S2.lock (S1.freeA hD) upd_same ((S1.wipe vs).apart hD)
  · obtain ⟨rfl, hi, A', ρ', acc, accV, e, S, ra, q⟩ := hW
    by_cases hlt : i < ds.length
    · refine .inr ⟨it.go i H (e.trans S.ex) hlt, fun H' => ∃ A' ρ' acc accV, Ex A1 A' ∧ Sat K (upd Fo Dl (.lst accV)) A' H' (wipe σ vs) ρ' ∧ RepL K A' accV acc ∧ Post K W Fo A' σ (runLc vs tg tt te (ds.drop (i + 1)) ρ' acc) Q, fun H' hN => ⟨ds.length - (i + 1), by omega, rfl, hlt, hN⟩, fun x H' hy => ?_⟩
      have hd := List.getElem?_eq_getElem hlt
      obtain ⟨A2, e2, S2, rx⟩ := it.yld i H x H' _ A' _ ρ' _ e S hd hy
      rw [List.drop_eq_getElem_cons hlt] at q
      replace q : Post K W Fo A' σ (match tg.asg ds[i] ρ' with
        | none => .bad
        | some ρ0 => (tt ρ0).noX.bind fun b ρ1 => match b with
          | .bl true => (te ρ1).noX.bind fun y ρ2 => if acc.length < sizeLine then runLc vs tg tt te (ds.drop (i + 1)) (wipeD ρ2 vs) (acc ++ [y]) else .bad
          | .bl false => runLc vs tg tt te (ds.drop (i + 1)) (wipeD ρ1 vs) acc
          | _ => .bad) Q := q
      cases ha : tg.asg ds[i] ρ' with
      | none => rw [ha] at q; exact q.elim
      | some ρ0 =>
        rw [ha] at q
        refine ⟨_, A2, ρ', ds[i], ρ0, S2, rx, ha, fun σ2 S3 off => ⟨(off.wipe hsub).trans (wipe_wipe σ vs), ?_⟩⟩
        have back : ∀ {A5 H5 : Hp} {ρ5 : Slots} {FX : Hp}, Sat K FX A5 H5 σ2 ρ5 → Sat K FX A5 H5 (wipe σ vs) (wipeD ρ5 vs) := fun {A5 H5 ρ5 FX} S5 => by
          have := S5.wipe vs
          rw [(off.wipe hsub).trans (wipe_wipe σ vs)] at this
          exact this
        have exec0 : ∀ {res : ERes} {k : D → DEn} {A5 : Hp} {Q5 : VK}, Post K W Fo A5 σ (res.noX.bind k) Q → (∀ v d A' H' ρ', Ex A5 A' → Sat K (upd Fo Dl (.lst accV)) A' H' σ2 ρ' → Rep K A' v d → Post K W Fo A' σ (k d ρ') Q → Q5 v H') → Post K W0 (upd Fo Dl (.lst accV)) A5 σ2 res Q5 := fun {res k A5 Q5} pp kk => by
          refine Post.asVal ?_
          cases res with
          | bad => exact pp
          | exc x ρ => exact pp.elim
          | ok r ρ =>
            cases r with
            | val d => intro v A6 H6 e6 S6 rv; cases rv with | val rv => exact kk v d A6 H6 ρ e6 S6 rv (Post.ext (show Post K W Fo A5 σ (k d ρ) Q from pp) e6)
            | own m => intro v A6 H6 e6 S6 rv; cases rv with | val rv => exact kk v _ A6 H6 ρ e6 S6 rv (Post.ext (show Post K W Fo A5 σ (k m.toD ρ) Q from pp) e6)
        refine ⟨_, A2, ρ0, S3, exec0 (Post.ext q e2) fun v b A4 H4 ρ4 e4 S4 r4 q4 => ?_⟩
        cases r4 with
        | bl b =>
          cases b with
          | true =>
            refine ⟨true, rfl, iteT ⟨_, A4, ρ4, S4, exec0 q4 fun y dy A5 H5 ρ5 e5 S5 r5 q5 => ?_⟩⟩
            obtain ⟨g1, g2⟩ := S5.fo Dl _ upd_same
            obtain ⟨hs, q5⟩ := ifB (P := fun z : ERes => Post K W Fo A5 σ z Q) q5 (fun z => z)
            have ra5 := ra.mn ((e2.trans e4).trans e5)
            refine ⟨accV, g1, by rw [ra5.length]; exact hs, A5, wipeD ρ5 vs, acc ++ [dy], accV ++ [y], ((e.trans e2).trans e4).trans e5, (back S5).relock, ra5.append (.one r5), q5⟩
          | false =>
            refine ⟨false, rfl, iteF ⟨A4, wipeD ρ4 vs, acc, accV, (e.trans e2).trans e4, back S4, ra.mn (e2.trans e4), q4⟩⟩
        | _ => exact q4.elim
    · have ei : i = ds.length := by omega
      refine .inl ⟨it.stop i H (e.trans S.ex) (by omega), ?_⟩
      rw [ei, List.drop_length] at q
      obtain ⟨S', h1, h2, h3⟩ := S.unlock hF
      have S6 : Sat K Fo A' H σ ρ' := S'.unwipe
      refine q _ A' H (Evl.Ex.refl _) S6 (.own h1 hF h2 (.lst ra) fun j m q1 q2 => ?_)
      obtain ⟨b, u, e1, _⟩ := S'.own j m q1
      have e3 := (wipe_some e1).1
      rw [q2] at e3; cases e3
      exact h3 j m q1 e1
section
variable {X : Cx} {W : WX}
theorem de_lc {elt tg iter : Expr} {ifs : List Expr} {scope : Scope} {own : List (Str × Nat)} {pos : Pos} {src : DSrc} {t : Tg} {tt te : DEn} (hc : X.calm = true) (hN : X.N.Nodup) (hi : DI X W tg iter src) (ok : BlkOk X.N X.env.scope scope own)
    (hg : ∀ (s : Shared) (H : Hp) (C : Addr) (cl : List (Str × Addr)) (fp : List Addr), DG (X.blk s H scope (compEnvC scope cl C X.env) fp) tg t) (ht : ∀ (s : Shared) (H : Hp) (C : Addr) (cl : List (Str × Addr)) (fp : List Addr), PTs (X.blk s H scope (compEnvC scope cl C X.env) fp) ifs (tB (rd X.K W0 tt)))
    (he : ∀ (s : Shared) (H : Hp) (C : Addr) (cl : List (Str × Addr)) (fp : List Addr), DE (X.blk s H scope (compEnvC scope cl C X.env) fp) W0 elt te) (hsub : ∀ i ∈ t.slots, i ∈ own.map (·.2)) (hs : ∀ x, foldedSetIterable iter X.env x = pure x := by intro _; rfl) :
    DE X W (.ListComp elt [⟨tg, iter, ifs, 0⟩] scope pos) (dLc src (own.map (·.2)) t tt te) := PE.weak (pe_lc (g := rdG X.K t) (tt := tB (rd X.K W0 tt)) (te := rd X.K W0 te) hc hN hi ok hg ht he hs) fun σ H Q ⟨Fo, A, ρ, S, p⟩ => by
  refine ⟨Fo, A, ρ, S, ?_⟩
  unfold dLc at p
  cases hsr : src ρ with
  | bad => rw [hsr] at p; exact p
  | exc x ρ1 => rw [hsr] at p; exact p
  | ok ds ρ1 => rw [hsr] at p; exact fun J A1 H1 e1 S1 it Dl hD => lc_reading hsub S1 it hD (Post.ext p e1)
/-- no test -/
theorem pts_yes {Y : Cx} : PTs Y [] (tB (rd Y.K W0 (dC (.bl true)))) := ⟨fun pins s σ H Q I ⟨Fo, A, ρ, S, p⟩ => pts_nil.run pins s σ H Q I (by
  obtain ⟨b, e, q⟩ := Post.now (d := .bl true) p S (.bl true)
  cases e
  exact q)⟩
theorem pts_test {Y : Cx} {c : Expr} {d : DEn} (h : DT Y W0 c d) : PTs Y [c] (tB (rd Y.K W0 d)) := pts_one h
end
end DL

set_option maxRecDepth 100000
set_option maxHeartbeats 2000000
/-! DL9: statements. -/
namespace DL
open PySem PySem.Spec L2
open Evl (Ex)

inductive SRes where
  | nx (ρ : Slots)
  | rt (r : R) (ρ : Slots)
  | bk (ρ : Slots)
  | ct (ρ : Slots)
  | exc (x : Xc) (ρ : Slots)
  | bad
  deriving Inhabited
abbrev DSt := Slots → SRes
/-- the slots at P hold what they held -/
def Keep (P : List Nat) (σ σ' : L2.St) : Prop := ∀ i ∈ P, σ'[i]? = σ[i]?
theorem Keep.refl (P : List Nat) (σ : L2.St) : Keep P σ σ := fun _ _ => rfl
theorem Keep.trans {P : List Nat} {σ σ' σ'' : L2.St} (h : Keep P σ σ') (k : Keep P σ' σ'') : Keep P σ σ'' := fun i hi => (k i hi).trans (h i hi)
theorem Off.keep {l P : List Nat} {σ σ' : L2.St} (h : Off l σ σ') (d : ∀ i ∈ l, i ∉ P) : Keep P σ σ' := fun i hi => h.2 i fun q => d i q hi
theorem Keep.set {P : List Nat} {σ : L2.St} {i : Nat} {v : Option V} (h : i ∉ P) : Keep P σ (σ.set i v) := fun j hj => List.getElem?_set_ne (fun e => h (by rw [e]; exact hj))
def PostS (K : PySem.W.Frag) (W : WX) (P : List Nat) (Fo A : Hp) (σ : L2.St) (res : SRes) (D : Ends) : Prop := match res with
  | .nx ρ' => ∀ σ' A' H', Keep P σ σ' → Ex A A' → Sat K Fo A' H' σ' ρ' → D.nx σ' H'
  | .rt r ρ' => ∀ v σ' A' H', Keep P σ σ' → Ex A A' → Sat K Fo A' H' σ' ρ' → RepR K Fo A' H' σ' ρ' v r → D.rt v H'
  | .bk ρ' => ∀ σ' A' H', Keep P σ σ' → Ex A A' → Sat K Fo A' H' σ' ρ' → D.bk σ' H'
  | .ct ρ' => ∀ σ' A' H', Keep P σ σ' → Ex A A' → Sat K Fo A' H' σ' ρ' → D.ct σ' H'
  | .exc x ρ' => ∀ cls dct σ' A' H', Keep P σ σ' → Ex A A' → Sat K Fo A' H' σ' ρ' → RepX K A' cls dct x → W cls dct σ' H'
  | .bad => False
def rdS (K : PySem.W.Frag) (W : WX) (P : List Nat) (s : DSt) : TS := fun D σ H => ∃ Fo A ρ, Sat K Fo A H σ ρ ∧ PostS K W P Fo A σ (s ρ) D
def DS (X : Cx) (W : WX) (P : List Nat) (st : Stmt) (s : DSt) : Prop := PS X st (rdS X.K W P s)
def DSs (X : Cx) (W : WX) (P : List Nat) (st : List Stmt) (s : DSt) : Prop := PSs X st (rdS X.K W P s)
theorem PS.weak {X : Cx} {e : Stmt} {t u : TS} (h : PS X e t) (w : ∀ D σ H, u D σ H → t D σ H) : PS X e u := ⟨fun pins s σ H D I q => h.run pins s σ H D I (w _ _ _ q)⟩
theorem PSs.weak {X : Cx} {e : List Stmt} {t u : TS} (h : PSs X e t) (w : ∀ D σ H, u D σ H → t D σ H) : PSs X e u := ⟨fun pins s σ H D I q => h.run pins s σ H D I (w _ _ _ q)⟩
section
variable {K : PySem.W.Frag} {W : WX} {P : List Nat} {Fo A A' H : Hp} {σ σ' : L2.St} {res : SRes} {D : Ends} {ρ : Slots}
theorem PostS.from (h : PostS K W P Fo A σ res D) (k : Keep P σ σ') (e : Ex A A') : PostS K W P Fo A' σ' res D := by
  cases res with
  | nx ρ => exact fun σ2 A2 H2 k2 e2 S => h σ2 A2 H2 (k.trans k2) (e.trans e2) S
  | rt r ρ => exact fun v σ2 A2 H2 k2 e2 S => h v σ2 A2 H2 (k.trans k2) (e.trans e2) S
  | bk ρ => exact fun σ2 A2 H2 k2 e2 S => h σ2 A2 H2 (k.trans k2) (e.trans e2) S
  | ct ρ => exact fun σ2 A2 H2 k2 e2 S => h σ2 A2 H2 (k.trans k2) (e.trans e2) S
  | exc x ρ => exact fun c d σ2 A2 H2 k2 e2 S => h c d σ2 A2 H2 (k.trans k2) (e.trans e2) S
  | bad => exact h
/-- an expression, then on -/
def ERes.thenS (r : ERes) (k : R → DSt) : SRes := match r with
  | .ok r ρ => k r ρ
  | .exc x ρ => .exc x ρ
  | .bad => .bad
theorem post_then {r : ERes} {k : R → DSt} {Q : VK} (h : PostS K W P Fo A σ (r.thenS k) D)
    (q : ∀ v r A' H' ρ', Ex A A' → Sat K Fo A' H' σ ρ' → RepR K Fo A' H' σ ρ' v r → PostS K W P Fo A' σ (k r ρ') D → Q v H') : Post K W Fo A σ r Q := by
  cases r with
  | ok r ρ => exact fun v A' H' e S rv => q v r A' H' ρ e S rv (PostS.from (show PostS K W P Fo A σ (k r ρ) D from h) (Keep.refl _ _) e)
  | exc x ρ => exact fun cls dct A' H' e S rx => (show ∀ cls dct σ' A' H', Keep P σ σ' → Ex A A' → Sat K Fo A' H' σ' ρ → RepX K A' cls dct x → W cls dct σ' H' from h) cls dct σ A' H' (Keep.refl _ _) e S rx
  | bad => exact h
end
def SRes.bind (r : SRes) (k : DSt) : SRes := match r with
  | .nx ρ => k ρ
  | r => r
/-! ### blocks -/
def sNil : DSt := fun ρ => .nx ρ
def sSeq (s t : DSt) : DSt := fun ρ => (s ρ).bind t
section
variable {X : Cx} {W : WX} {P : List Nat}
theorem PostS.now {K : PySem.W.Frag} {Fo A H : Hp} {σ : L2.St} {D : Ends} {ρ : Slots} (p : PostS K W P Fo A σ (.nx ρ) D) (S : Sat K Fo A H σ ρ) : D.nx σ H := p σ A H (Keep.refl _ _) (Evl.Ex.refl _) S
theorem dss_nil : DSs X W P [] sNil := PSs.weak pss_nil fun D σ H ⟨Fo, A, ρ, S, p⟩ => PostS.now p S
theorem dss_cons {st : Stmt} {rest : List Stmt} {s t : DSt} (h : DS X W P st s) (hs : DSs X W P rest t) : DSs X W P (st :: rest) (sSeq s t) := PSs.weak (pss_cons h hs) fun D σ H ⟨Fo, A, ρ, S, p⟩ => by
  refine ⟨Fo, A, ρ, S, ?_⟩
  unfold sSeq at p
  cases hr : s ρ with
  | nx ρ1 => rw [hr] at p; exact fun σ' A' H' k e S' => ⟨Fo, A', ρ1, S', PostS.from (show PostS X.K W P Fo A σ (t ρ1) D from p) k e⟩
  | rt r ρ1 => rw [hr] at p; exact p
  | bk ρ1 => rw [hr] at p; exact p
  | ct ρ1 => rw [hr] at p; exact p
  | exc x ρ1 => rw [hr] at p; exact p
  | bad => rw [hr] at p; exact p
theorem dss_one {st : Stmt} {s : DSt} (h : DS X W P st s) : DSs X W P [st] s := PSs.weak (pss_one h) fun D σ H h => h
/-! ### simple statements -/
theorem ds_pass {pos : Pos} : DS X W P (.Pass pos) sNil := PS.weak ps_pass fun D σ H ⟨Fo, A, ρ, S, p⟩ => PostS.now p S
theorem ds_break {pos : Pos} : DS X W P (.Break pos) (fun ρ => .bk ρ) := PS.weak ps_break fun D σ H ⟨Fo, A, ρ, S, p⟩ => p σ A H (Keep.refl _ _) (Evl.Ex.refl _) S
theorem ds_continue {pos : Pos} : DS X W P (.Continue pos) (fun ρ => .ct ρ) := PS.weak ps_continue fun D σ H ⟨Fo, A, ρ, S, p⟩ => p σ A H (Keep.refl _ _) (Evl.Ex.refl _) S
/-- x = e, a thing of one's own stays so -/
def sSet (i : Nat) (d : DEn) : DSt := fun ρ => (d ρ).thenS fun r ρ1 => .nx (ρ1.set i (some r))
/-- x = e, taken as data -/
def sSetV (i : Nat) (d : DEn) : DSt := fun ρ => (d ρ).asVal.thenS fun r ρ1 => .nx (ρ1.set i (some r))
theorem ds_set {i : Nat} {x : Str} {e : Expr} {d : DEn} {pos pos' : Pos} (hN : X.N.Nodup) (hi : X.N[i]? = some x) (hx : Loc X.env.scope x) (hP : i ∉ P) (he : DE X W e d) (hs : swapsWith e (some (.Name x pos')) pos.line X.env = pure false := by rfl)
    (hf : X.fn x = true ∨ X.env.scope.names.lookup x = some .local := by first | exact .inl rfl | exact .inr rfl | assumption) : DS X W P (.Assign [.Name x pos'] e pos) (sSet i d) :=
  PS.weak (ps_set hN hi hx he hs hf) fun D σ H ⟨Fo, A, ρ, S, p⟩ => ⟨Fo, A, ρ, S, post_then p fun v r A' H' ρ' e S' rv q => q _ A' H' (Keep.set hP) (Evl.Ex.refl _) (S'.setR rv)⟩
theorem ds_setV {i : Nat} {x : Str} {e : Expr} {d : DEn} {pos pos' : Pos} (hN : X.N.Nodup) (hi : X.N[i]? = some x) (hx : Loc X.env.scope x) (hP : i ∉ P) (he : DE X W e d) (hs : swapsWith e (some (.Name x pos')) pos.line X.env = pure false := by rfl)
    (hf : X.fn x = true ∨ X.env.scope.names.lookup x = some .local := by first | exact .inl rfl | exact .inr rfl | assumption) : DS X W P (.Assign [.Name x pos'] e pos) (sSetV i d) :=
  PS.weak (ps_set hN hi hx he hs hf) fun D σ H ⟨Fo, A, ρ, S, p⟩ => ⟨Fo, A, ρ, S, Post.asVal (post_then p fun v r A' H' ρ' e S' rv q => q _ A' H' (Keep.set hP) (Evl.Ex.refl _) (S'.setR rv))⟩
/-- a, b = e and other targets: by value -/
def sUnp (t : Tg) (d : DEn) : DSt := fun ρ => (d ρ).asVal.thenS fun r ρ1 => match t.asg r.toD ρ1 with
  | some ρ2 => .nx ρ2
  | none => .bad
theorem ds_unp {tg e : Expr} {t : Tg} {d : DEn} {pos : Pos} (he : DE X W e d) (hg : DG X tg t) (hP : ∀ i ∈ t.slots, i ∉ P) (hs : swapsWithSole [tg] e pos.line X.env = pure false := by rfl) (hw : swappedStores [tg] e X.env = pure none := by rfl)
    (h1 : (assignEach [tg] X.env).map (·.2) = [assign tg X.env] := by rfl) : DS X W P (.Assign [tg] e pos) (sUnp t d) :=
  PS.weak (ps_asg he hg hs hw h1) fun D σ H ⟨Fo, A, ρ, S, p⟩ => ⟨Fo, A, ρ, S, Post.asVal (post_then p fun v r A' H' ρ' e S' rv q => by
    cases rv with
    | own h1 h2 h3 h4 h5 =>
      rename_i a o m
      dsimp only [R.toD] at q
      cases ha : t.asg m.toD ρ' with
      | none => rw [ha] at q; exact q.elim
      | some ρ2 =>
        rw [ha] at q
        exact ⟨Fo, _, ρ', _, ρ2, S'.anchor h1 h2 h3 h5, h4.freeze h1, ha, fun σ' S2 off => q σ' _ H' (off.keep hP) (Ex.new h1) S2⟩
    | val rv =>
      rename_i d'
      dsimp only [R.toD] at q
      cases ha : t.asg d' ρ' with
      | none => rw [ha] at q; exact q.elim
      | some ρ2 =>
        rw [ha] at q
        exact ⟨Fo, A', ρ', d', ρ2, S', rv, ha, fun σ' S2 off => q σ' A' H' (off.keep hP) (Evl.Ex.refl _) S2⟩)⟩
/-- a, b = e1, e2 -/
def ARes.thenS (r : ARes) (k : List D → DSt) : SRes := match r with
  | .ok as ρ1 => (match dsOf as with
    | some ds => k ds ρ1
    | none => .bad)
  | .exc x ρ => .exc x ρ
  | .bad => .bad
theorem post_thenA {K : PySem.W.Frag} {Fo A : Hp} {σ : L2.St} {r : ARes} {D' : Ends} {Q : List V → Hp → Prop} {k : List DL.D → DSt} (h : PostS K W P Fo A σ (r.thenS k) D')
    (q : ∀ vs ds A' H' ρ', Ex A A' → Sat K Fo A' H' σ ρ' → RepL K A' vs ds → PostS K W P Fo A' σ (k ds ρ') D' → Q vs H') : PostA K W Fo A σ r Q := by
  cases r with
  | bad => exact h
  | exc x ρ => exact fun cls dct A' H' e S rx => (show ∀ cls dct σ' A' H', Keep P σ σ' → Ex A A' → Sat K Fo A' H' σ' ρ → RepX K A' cls dct x → W cls dct σ' H' from h) cls dct σ A' H' (Keep.refl _ _) e S rx
  | ok as ρ =>
    replace h : PostS K W P Fo A σ (match dsOf as with
      | some ds => k ds ρ
      | none => .bad) D' := h
    cases hd : dsOf as with
    | none => rw [hd] at h; exact h.elim
    | some ds => rw [hd] at h; exact fun vs A' H' e S ra => q vs ds A' H' ρ e S (ra.all hd) (PostS.from h (Keep.refl _ _) e)
def sPar2 (i j : Nat) (args : List Arg) : DSt := fun ρ => (runArgs args ρ).thenS fun ds ρ1 => match ds with
  | [x, y] => .nx ((ρ1.set i (some (.val x))).set j (some (.val y)))
  | _ => .bad
theorem ds_par2 {i j : Nat} {x y : Str} {a b : Expr} {args : List Arg} {px py pt pos : Pos} {kt k2 pt2} (hc : X.calm = true) (hN : X.N.Nodup) (hi : X.N[i]? = some x) (hj : X.N[j]? = some y) (hij : i ≠ j) (hPi : i ∉ P) (hPj : j ∉ P)
    (hx : X.env.scope.names.lookup x = some .local) (hy : X.env.scope.names.lookup y = some .local) (ha : DA X W [a, b] args)
    (hw : swappedStores [.Tuple [.Name x px, .Name y py] kt pt] (.Tuple [a, b] k2 pt2) X.env = pure (some [x, y]))
    (hs : swapsWithSole [.Tuple [.Name x px, .Name y py] kt pt] (.Tuple [a, b] k2 pt2) pos.line X.env = pure false := by rfl) :
    DS X W P (.Assign [.Tuple [.Name x px, .Name y py] kt pt] (.Tuple [a, b] k2 pt2) pos) (sPar2 i j args) :=
  PS.weak (ps_par hc hN hi hj hij hx hy ha hw hs) fun D σ H ⟨Fo, A, ρ, S, p⟩ => ⟨Fo, A, ρ, S, post_thenA p fun vs ds A' H' ρ' e S' ra q => by
    cases ra with
    | nil => exact q.elim
    | cons h1 r =>
      cases r with
      | nil => exact q.elim
      | cons h2 r =>
        cases r with
        | cons _ _ => exact q.elim
        | nil => exact ⟨_, _, rfl, q _ A' H' ((Keep.set hPi).trans (Keep.set hPj)) (Evl.Ex.refl _) ((S'.setD h1).setD h2)⟩⟩
def sPar3 (i j l : Nat) (args : List Arg) : DSt := fun ρ => (runArgs args ρ).thenS fun ds ρ1 => match ds with
  | [x, y, z] => .nx (((ρ1.set i (some (.val x))).set j (some (.val y))).set l (some (.val z)))
  | _ => .bad
theorem ds_par3 {i j l : Nat} {x y z : Str} {a b c : Expr} {args : List Arg} {px py pz pt pos : Pos} {kt k2 pt2} (hc : X.calm = true) (hN : X.N.Nodup) (hi : X.N[i]? = some x) (hj : X.N[j]? = some y) (hl : X.N[l]? = some z) (hij : i ≠ j) (hil : i ≠ l) (hjl : j ≠ l) (hPi : i ∉ P) (hPj : j ∉ P) (hPl : l ∉ P)
    (hx : X.env.scope.names.lookup x = some .local) (hy : X.env.scope.names.lookup y = some .local) (hz : X.env.scope.names.lookup z = some .local) (ha : DA X W [a, b, c] args)
    (hw : swappedStores [.Tuple [.Name x px, .Name y py, .Name z pz] kt pt] (.Tuple [a, b, c] k2 pt2) X.env = pure (some [x, y, z]))
    (hs : swapsWithSole [.Tuple [.Name x px, .Name y py, .Name z pz] kt pt] (.Tuple [a, b, c] k2 pt2) pos.line X.env = pure false := by rfl) :
    DS X W P (.Assign [.Tuple [.Name x px, .Name y py, .Name z pz] kt pt] (.Tuple [a, b, c] k2 pt2) pos) (sPar3 i j l args) :=
  PS.weak (ps_par3 hc hN hi hj hl hij hil hjl hx hy hz ha hw hs) fun D σ H ⟨Fo, A, ρ, S, p⟩ => ⟨Fo, A, ρ, S, post_thenA p fun vs ds A' H' ρ' e S' ra q => by
    cases ra with
    | nil => exact q.elim
    | cons h1 r =>
      cases r with
      | nil => exact q.elim
      | cons h2 r =>
        cases r with
        | nil => exact q.elim
        | cons h3 r =>
          cases r with
          | cons _ _ => exact q.elim
          | nil => exact ⟨_, _, _, rfl, q _ A' H' (((Keep.set hPi).trans (Keep.set hPj)).trans (Keep.set hPl)) (Evl.Ex.refl _) (((S'.setD h1).setD h2).setD h3)⟩⟩
/-- the own thing of slot i is another now -/
theorem Sat.write {K : PySem.W.Frag} {Fo A H : Hp} {σ : L2.St} {ρ : Slots} {i : Nat} {m m' : M} {a : Addr} {o' : HO} (S : Sat K Fo A H σ ρ) (h : ρ[i]? = some (some (.own m))) (hs : σ[i]? = some (some (.ref a))) (r : RepM K A o' m') : Sat K Fo A (upd H a o') σ (ρ.set i (some (.own m'))) := by
  obtain ⟨b, o, e1, e2, e3, e4, e5⟩ := S.own i m h
  rw [hs] at e1; cases e1
  have hi : i < ρ.length := (List.getElem?_eq_some_iff.mp h).1
  have gt : ∀ (j : Nat) (x : Option R), (ρ.set i (some (.own m')))[j]? = some x → (i = j ∧ x = some (.own m')) ∨ (i ≠ j ∧ ρ[j]? = some x) := fun j x q => by
    by_cases e : i = j
    · subst e; rw [List.getElem?_set_self hi] at q; exact .inl ⟨rfl, (Option.some.inj q).symm⟩
    · rw [List.getElem?_set_ne e] at q; exact .inr ⟨e, q⟩
  refine ⟨fun b u q => ?_, fun b u q => ?_, by rw [List.length_set]; exact S.len, fun j d q => ?_, fun j m2 q => ?_, fun j k m1 m2 b q1 q2 q3 q4 => ?_⟩
  · have nb : b ≠ a := fun z => by subst z; rw [e2] at q; cases q
    rw [upd_ne nb]; exact S.ex b u q
  · have nb : b ≠ a := fun z => by subst z; rw [e3] at q; cases q
    exact ⟨by rw [upd_ne nb]; exact (S.fo b u q).1, (S.fo b u q).2⟩
  · rcases gt j _ q with ⟨e, q'⟩ | ⟨e, q'⟩
    · cases q'
    · exact S.val j d q'
  · rcases gt j _ q with ⟨e, q'⟩ | ⟨e, q'⟩
    · subst e; cases q'
      exact ⟨a, o', hs, e2, e3, upd_same, r⟩
    · obtain ⟨b, u, f1, f2, f3, f4, f5⟩ := S.own j m2 q'
      have nb : b ≠ a := fun z => by subst z; exact e (S.inj i j m m2 b h q' hs f1)
      exact ⟨b, u, f1, f2, f3, by rw [upd_ne nb]; exact f4, f5⟩
  · have back : ∀ (j : Nat) (mm : M), (ρ.set i (some (.own m')))[j]? = some (some (.own mm)) → ∃ m0, ρ[j]? = some (some (.own m0)) := fun j mm q => by
      rcases gt j _ q with ⟨e, _⟩ | ⟨_, q'⟩
      · subst e; exact ⟨m, h⟩
      · exact ⟨mm, q'⟩
    obtain ⟨a1, p1⟩ := back j m1 q1
    obtain ⟨a2, p2⟩ := back k m2 q2
    exact S.inj j k a1 a2 b p1 p2 q3 q4
/-- slot i's own instance, f = e -/
def putD (f : Str) (d : D) : List Str → List D → List Str × List D
  | n :: ns, x :: xs => if f = n then (n :: ns, d :: xs) else ((n :: (putD f d ns xs).1), (x :: (putD f d ns xs).2))
  | _, _ => ([f], [d])
theorem put_rep {K : PySem.W.Frag} {A : Hp} {f : Str} {d : DL.D} {v : V} (h : Rep K A v d) : ∀ {fs : List (Str × V)} {ds : List DL.D}, RepL K A (fs.map (·.2)) ds → (putF f v fs).map (·.1) = (putD f d (fs.map (·.1)) ds).1 ∧ RepL K A ((putF f v fs).map (·.2)) (putD f d (fs.map (·.1)) ds).2
  | [], _, .nil => ⟨rfl, .cons h .nil⟩
  | (n, u) :: fs, x :: ds, .cons hu r => by
    obtain ⟨h1, h2⟩ := put_rep h r
    show (putF f v ((n, u) :: fs)).map (·.1) = (if f = n then (n :: fs.map (·.1), d :: ds) else ((n :: (putD f d (fs.map (·.1)) ds).1), (x :: (putD f d (fs.map (·.1)) ds).2))).1 ∧ RepL K A ((putF f v ((n, u) :: fs)).map (·.2)) (if f = n then (n :: fs.map (·.1), d :: ds) else ((n :: (putD f d (fs.map (·.1)) ds).1), (x :: (putD f d (fs.map (·.1)) ds).2))).2
    unfold putF
    by_cases e : f = n
    · subst e
      simp only [if_true]
      first
        | exact ⟨rfl, .cons h r⟩
        | (simp; exact ⟨h, r⟩)
    · simp only [if_neg e]
      first
        | exact ⟨congrArg (n :: ·) h1, .cons hu h2⟩
        | (have e' : ¬ n = f := fun q => e q.symm
           simp only [if_neg e']
           exact ⟨congrArg (n :: ·) h1, .cons hu h2⟩)
def sFld (i : Nat) (C : String) (f : Str) (d : DEn) : DSt := fun ρ => (d ρ).asVal.thenS fun r ρ1 => match ρ1[i]? with
  | some (some (.own (.ins C' ns xs))) => if C' = C ∧ ns.length < 1000 then .nx (ρ1.set i (some (.own (.ins C (putD f r.toD ns xs).1 (putD f r.toD ns xs).2)))) else .bad
  | _ => .bad
theorem ds_fld {x : Str} {i : Nat} {C : String} {f : Str} {e : Expr} {d : DEn} {px pos pos' : Pos} (ok : FldOk X.K C f) (ho : PE X (.Name x px) (tVar i)) (he : DE X W e d) (hs : swapsWith e (some (.Attribute (.Name x px) f pos')) pos.line X.env = pure false := by rfl) : DS X W P (.Assign [.Attribute (.Name x px) f pos'] e pos) (sFld i C f d) :=
  PS.weak (ps_fld ho he hs) fun D σ H ⟨Fo, A, ρ, S, p⟩ => ⟨Fo, A, ρ, S, Post.asVal (post_then p fun v r A' H' ρ' e S' rv q => by
    have key : ∀ {A2 : Hp} {d2 : DL.D}, Ex A' A2 → Sat X.K Fo A2 H' σ ρ' → Rep X.K A2 v d2 → r.toD = d2 → ∃ x, σ[i]? = some (some x) ∧ ∃ a C dx fs, x = .ref a ∧ H' a = some (.ins C dx fs) ∧ Cls X.K C ∧ NoAttr X.K C f ∧ fs.length < 1000 ∧ D.nx σ (upd H' a (.ins C dx (putF f v fs))) := fun {A2 d2} e2 S2 r2 hd => by
      rw [hd] at q
      cases hi : ρ'[i]? with
      | none => rw [hi] at q; exact q.elim
      | some o =>
        rw [hi] at q
        cases o with
        | none => exact q.elim
        | some rr =>
          cases rr with
          | val _ => exact q.elim
          | own m =>
            cases m with
            | ins C' ns xs =>
              replace q : PostS X.K W P Fo A' σ (if C' = C ∧ ns.length < 1000 then .nx (ρ'.set i (some (.own (.ins C (putD f d2 ns xs).1 (putD f d2 ns xs).2)))) else .bad) D := q
              obtain ⟨⟨hC, hl⟩, q2⟩ := ifB (P := fun z : SRes => PostS X.K W P Fo A' σ z D) q (fun z => z)
              subst hC
              obtain ⟨a, o, e1, f1, f2, f3, f4⟩ := S2.own i _ hi
              cases f4 with
              | ins n r =>
                rename_i dx fs
                subst n
                obtain ⟨g1, g2⟩ := put_rep r2 r
                refine ⟨_, e1, a, _, dx, fs, rfl, f3, ok.cl, ok.no, by simpa using hl, q2 σ A2 _ (Keep.refl _ _) e2 (S2.write hi e1 (.ins g1 g2))⟩
            | _ => exact q.elim
    cases rv with
    | val rv => exact key (Evl.Ex.refl _) S' rv rfl
    | own h1 h2 h3 h4 h5 => exact key (Ex.new h1) (S'.anchor h1 h2 h3 h5) (h4.freeze h1) rfl)⟩
/-- x += e, ints -/
def sAug (i : Nat) (f : Int → Int → Int) (d : DEn) : DSt := fun ρ => match ρ[i]? with
  | some (some (.val (.int n))) => (d ρ).asVal.thenS fun r ρ1 => (match r with
    | .val (.int k) => .nx (ρ1.set i (some (.val (.int (f n k)))))
    | _ => .bad)
  | _ => .bad
theorem ds_aug {i : Nat} {x : Str} {e : Expr} {d : DEn} {op : Operator} {f : Int → Int → Int} {pos pos' : Pos} (hN : X.N.Nodup) (hi : X.N[i]? = some x) (hx : Loc X.env.scope x) (hP : i ∉ P) (he : DE X W e d) (ho : PIp X op (ipI f))
    (hf : X.fn x = true ∨ X.env.scope.names.lookup x = some .local := by first | exact .inl rfl | exact .inr rfl | assumption) : DS X W P (.AugAssign (.Name x pos') op e pos) (sAug i f d) :=
  PS.weak (ps_aug hN hi hx he ho hf) fun D σ H ⟨Fo, A, ρ, S, p⟩ => by
    unfold sAug at p
    cases hi : ρ[i]? with
    | none => rw [hi] at p; exact p.elim
    | some o =>
      rw [hi] at p
      cases o with
      | none => exact p.elim
      | some r =>
        cases r with
        | own m => exact p.elim
        | val dd =>
          cases dd with
          | int n =>
            obtain ⟨v, e1, e2⟩ := S.val i _ hi
            cases e2
            refine ⟨.int n, e1, Fo, A, ρ, S, Post.asVal (post_then p fun v r A' H' ρ' e S' rv q => ?_)⟩
            cases rv with
            | own => exact q.elim
            | val rv =>
              cases rv with
              | int k => exact ⟨n, k, rfl, rfl, q _ A' H' (Keep.set hP) (Evl.Ex.refl _) (S'.setD (.int _))⟩
              | _ => exact q.elim
          | _ => exact p.elim
/-- e; -/
def sDrop (d : DEn) : DSt := fun ρ => (d ρ).thenS fun _ ρ1 => .nx ρ1
theorem ds_expr {e : Expr} {d : DEn} {pos : Pos} (he : DE X W e d) (hs : swapsWith e none pos.line X.env = pure false := by rfl) : DS X W P (.Expr e pos) (sDrop d) :=
  PS.weak (ps_expr he hs) fun D σ H ⟨Fo, A, ρ, S, p⟩ => ⟨Fo, A, ρ, S, post_then p fun v r A' H' ρ' e S' rv q => q σ A' H' (Keep.refl _ _) (Evl.Ex.refl _) S'⟩
/-- return e -/
def sRet (d : DEn) : DSt := fun ρ => (d ρ).thenS fun r ρ1 => .rt r ρ1
theorem ds_ret {e : Expr} {d : DEn} {pos : Pos} (he : DE X W e d) : DS X W P (.Return (some e) pos) (sRet d) :=
  PS.weak (ps_ret he) fun D σ H ⟨Fo, A, ρ, S, p⟩ => ⟨Fo, A, ρ, S, post_then p fun v r A' H' ρ' e S' rv q => q v σ A' H' (Keep.refl _ _) (Evl.Ex.refl _) S' rv⟩
theorem ds_retN {pos : Pos} : DS X W P (.Return none pos) (fun ρ => .rt (.val .non) ρ) := PS.weak ps_retN fun D σ H ⟨Fo, A, ρ, S, p⟩ => p .non σ A H (Keep.refl _ _) (Evl.Ex.refl _) S (.val .non)
/-- if -/
def sIf (c : DEn) (s t : DSt) : DSt := fun ρ => (c ρ).asVal.thenS fun r ρ1 => match r with
  | .val (.bl true) => s ρ1
  | .val (.bl false) => t ρ1
  | _ => .bad
theorem ds_if {c : Expr} {a b : List Stmt} {dc : DEn} {s t : DSt} {pos : Pos} (hc : DT X W c dc) (ha : DSs X W P a s) (hb : DSs X W P b t) : DS X W P (.If c a b pos) (sIf dc s t) :=
  PS.weak (ps_if hc ha hb) fun D σ H ⟨Fo, A, ρ, S, p⟩ => ⟨Fo, A, ρ, S, Post.asVal (post_then p fun v r A' H' ρ' e S' rv q => by
    cases rv with
    | own => exact q.elim
    | val rv =>
      cases rv with
      | bl b =>
        cases b with
        | true => exact ⟨true, rfl, iteT ⟨Fo, A', ρ', S', q⟩⟩
        | false => exact ⟨false, rfl, iteF ⟨Fo, A', ρ', S', q⟩⟩
      | _ => exact q.elim)⟩
/-! ### loops -/
def runFor (tg : Tg) (body : DSt) : List DL.D → DSt
  | [], ρ => .nx ρ
  | x :: xs, ρ => match tg.asg x ρ with
    | none => .bad
    | some ρ0 => match body ρ0 with
      | .nx ρ1 => runFor tg body xs ρ1
      | .ct ρ1 => runFor tg body xs ρ1
      | .bk ρ1 => .nx ρ1
      | .rt r ρ1 => .rt r ρ1
      | .exc x ρ1 => .exc x ρ1
      | .bad => .bad
def sFor (src : DSrc) (tg : Tg) (body : DSt) : DSt := fun ρ => match src ρ with
  | .ok ds ρ1 => runFor tg body ds ρ1
  | .exc x ρ1 => .exc x ρ1
  | .bad => .bad
theorem ds_for {iter tge : Expr} {b : List Stmt} {src : DSrc} {tg : Tg} {body : DSt} {pos : Pos} (hp : PassesOwn (model X.prog X.w) X.A X.env X.xe) (hc : X.calm = true) (hi : DI X W tge iter src) (hg : DG X tge tg) (hb : DSs X W P b body) (hP : ∀ i ∈ tg.slots, i ∉ P)
    (hs : ∀ x, foldedSetIterable iter X.env x = pure x := by intro _; rfl) : DS X W P (.For tge iter b [] pos) (sFor src tg body) :=
  PS.weak (ps_for hp hc hi hg hb hs) fun D σ H ⟨Fo, A, ρ, S, p⟩ => by
    refine ⟨Fo, A, ρ, S, ?_⟩
    unfold sFor at p
    cases hsr : src ρ with
    | bad => rw [hsr] at p; exact p
    | exc x ρ1 => rw [hsr] at p; exact fun cls dct A' H' e S' rx => (show ∀ cls dct σ' A' H', Keep P σ σ' → Ex A A' → Sat X.K Fo A' H' σ' ρ1 → RepX X.K A' cls dct x → W cls dct σ' H' from p) cls dct σ A' H' (Keep.refl _ _) e S' rx
    | ok ds ρ1 =>
      rw [hsr] at p
      intro J A1 H1 e1 S1 it
      refine ⟨fun i m σ' H => m = ds.length - i ∧ i ≤ ds.length ∧ ∃ A' ρ', Ex A1 A' ∧ Sat X.K Fo A' H σ' ρ' ∧ PostS X.K W P Fo A' σ' (runFor tg body (ds.drop i) ρ') D, ⟨ds.length, by omega, Nat.zero_le _, A1, ρ1, Evl.Ex.refl _, S1, PostS.from p (Keep.refl _ _) e1⟩, fun i m σ' H hW => ?_⟩
      obtain ⟨rfl, hi, A', ρ', e, S, q⟩ := hW
      by_cases hlt : i < ds.length
      · refine .inr ⟨it.go i H (e.trans S.ex) hlt, fun σ'' H' => ∃ A' ρ', Ex A1 A' ∧ Sat X.K Fo A' H' σ'' ρ' ∧ PostS X.K W P Fo A' σ'' (runFor tg body (ds.drop (i + 1)) ρ') D, fun σ'' H' hN => ⟨ds.length - (i + 1), by omega, rfl, hlt, hN⟩, fun x H' hy => ?_⟩
        have hd := List.getElem?_eq_getElem hlt
        obtain ⟨A2, e2, S2, rx⟩ := it.yld i H x H' _ A' _ ρ' _ e S hd hy
        rw [List.drop_eq_getElem_cons hlt] at q
        replace q : PostS X.K W P Fo A' σ' (match tg.asg ds[i] ρ' with
          | none => .bad
          | some ρ0 => match body ρ0 with
            | .nx ρ1 => runFor tg body (ds.drop (i + 1)) ρ1
            | .ct ρ1 => runFor tg body (ds.drop (i + 1)) ρ1
            | .bk ρ1 => .nx ρ1
            | .rt r ρ1 => .rt r ρ1
            | .exc x ρ1 => .exc x ρ1
            | .bad => .bad) D := q
        cases ha : tg.asg ds[i] ρ' with
        | none => rw [ha] at q; exact q.elim
        | some ρ0 =>
          rw [ha] at q
          dsimp only at q
          refine ⟨_, A2, ρ', ds[i], ρ0, S2, rx, ha, fun σ2 S3 off => ⟨_, A2, ρ0, S3, ?_⟩⟩
          have kp := off.keep (P := P) hP
          cases hb : body ρ0 with
          | nx ρ5 => rw [hb] at q; exact fun σ5 A5 H5 k5 e5 S5 => ⟨A5, ρ5, (e.trans e2).trans e5, S5, PostS.from (show PostS X.K W P Fo A' σ' (runFor tg body (ds.drop (i + 1)) ρ5) D from q) (kp.trans k5) (e2.trans e5)⟩
          | ct ρ5 => rw [hb] at q; exact fun σ5 A5 H5 k5 e5 S5 => ⟨A5, ρ5, (e.trans e2).trans e5, S5, PostS.from (show PostS X.K W P Fo A' σ' (runFor tg body (ds.drop (i + 1)) ρ5) D from q) (kp.trans k5) (e2.trans e5)⟩
          | bk ρ5 => rw [hb] at q; exact PostS.from (show PostS X.K W P Fo A' σ' (.nx ρ5) D from q) kp e2
          | rt r ρ5 => rw [hb] at q; exact PostS.from (show PostS X.K W P Fo A' σ' (.rt r ρ5) D from q) kp e2
          | exc y ρ5 => rw [hb] at q; exact PostS.from (show PostS X.K W P Fo A' σ' (.exc y ρ5) D from q) kp e2
          | bad => rw [hb] at q; exact q
      · have ei : i = ds.length := by omega
        rw [ei, List.drop_length] at q
        exact .inl ⟨it.stop i H (e.trans S.ex) (by omega), PostS.now q S⟩
def runWhile (c : DEn) (body : DSt) : Nat → DSt
  | 0, _ => .bad
  | n + 1, ρ => (c ρ).asVal.thenS (fun r ρ1 => match r with
    | .val (.bl true) => (match body ρ1 with
      | .nx ρ2 => runWhile c body n ρ2
      | .ct ρ2 => runWhile c body n ρ2
      | .bk ρ2 => .nx ρ2
      | .rt r ρ2 => .rt r ρ2
      | .exc x ρ2 => .exc x ρ2
      | .bad => .bad)
    | .val (.bl false) => .nx ρ1
    | _ => .bad) 
theorem ds_while {c : Expr} {b : List Stmt} {dc : DEn} {body : DSt} {pos : Pos} (fuel : Nat) (hp : PassesOwn (model X.prog X.w) X.A X.env X.xe) (hc : DT X W c dc) (hb : DSs X W P b body) : DS X W P (.While c b [] pos) (runWhile dc body fuel) :=
  PS.weak (ps_while hp hc hb) fun D σ H ⟨Fo, A, ρ, S, p⟩ => by
    refine ⟨fun m σ' H => ∃ A' ρ', Sat X.K Fo A' H σ' ρ' ∧ PostS X.K W P Fo A' σ' (runWhile dc body m ρ') D, ⟨fuel, A, ρ, S, p⟩, fun m σ' H ⟨A', ρ', S, q⟩ => ?_⟩
    cases m with
    | zero => exact q.elim
    | succ n =>
      refine ⟨Fo, A', ρ', S, Post.asVal (post_then q fun v r A2 H2 ρ2 e2 S2 rv q2 => ?_)⟩
      cases rv with
      | own => exact q2.elim
      | val rv =>
        cases rv with
        | bl b =>
          cases b with
          | false => exact ⟨false, rfl, iteF (PostS.now q2 S2)⟩
          | true =>
            refine ⟨true, rfl, iteT ⟨fun σ'' H' => ∃ A' ρ', Sat X.K Fo A' H' σ'' ρ' ∧ PostS X.K W P Fo A' σ'' (runWhile dc body n ρ') D, fun σ'' H' hN => ⟨n, Nat.lt_succ_self _, hN⟩, Fo, A2, ρ2, S2, ?_⟩⟩
            replace q2 : PostS X.K W P Fo A2 σ' (match body ρ2 with
              | .nx ρ2 => runWhile dc body n ρ2
              | .ct ρ2 => runWhile dc body n ρ2
              | .bk ρ2 => .nx ρ2
              | .rt r ρ2 => .rt r ρ2
              | .exc x ρ2 => .exc x ρ2
              | .bad => .bad) D := q2
            cases hb : body ρ2 with
            | nx ρ5 => rw [hb] at q2; exact fun σ5 A5 H5 k5 e5 S5 => ⟨A5, ρ5, S5, PostS.from (show PostS X.K W P Fo A2 σ' (runWhile dc body n ρ5) D from q2) k5 e5⟩
            | ct ρ5 => rw [hb] at q2; exact fun σ5 A5 H5 k5 e5 S5 => ⟨A5, ρ5, S5, PostS.from (show PostS X.K W P Fo A2 σ' (runWhile dc body n ρ5) D from q2) k5 e5⟩
            | bk ρ5 => rw [hb] at q2; exact q2
            | rt r ρ5 => rw [hb] at q2; exact q2
            | exc y ρ5 => rw [hb] at q2; exact q2
            | bad => rw [hb] at q2; exact q2
        | _ => exact q2.elim
end
end DL

set_option maxRecDepth 100000
set_option maxHeartbeats 2000000
/-! DL10: own lists changed, raise, try, a def by its body. -/
namespace DL
open PySem PySem.Spec L2
open Evl (Ex)

section
variable {X : Cx} {W : WX} {P : List Nat}
/-- x.append(e), x slot i's own list -/
def dAppend (i : Nat) (d : DEn) : DEn := fun ρ => match ρ[i]? with
  | some (some (.own (.lst _))) => (d ρ).bind fun y ρ1 => (match ρ1[i]? with
    | some (some (.own (.lst xs))) => if xs.length < sizeLine then .ok (.val .non) (ρ1.set i (some (.own (.lst (xs ++ [y]))))) else .bad
    | _ => .bad)
  | _ => .bad
theorem own_lst {K : PySem.W.Frag} {Fo A H : Hp} {σ : L2.St} {ρ : Slots} {i : Nat} {xs : List D} (S : Sat K Fo A H σ ρ) (h : ρ[i]? = some (some (.own (.lst xs)))) : ∃ a vs, σ[i]? = some (some (V.ref a)) ∧ H a = some (.lst vs) ∧ RepL K A vs xs := by
  obtain ⟨a, o, e1, e2, e3, e4, e5⟩ := S.own i _ h
  cases e5 with
  | lst r => exact ⟨a, _, e1, e4, r⟩
theorem de_append {x : Str} {i : Nat} {e : Expr} {d : DEn} {px apos cpos : Pos} (ho : PE X (.Name x px) (tVar i)) (he : DE X W e d)
    (hbase : attributeBase (.Name x px) "append" X.env (eval (.Name x px) X.env) = eval (.Name x px) X.env := by rfl)
    (hfew : ((backTo cpos (starEach [e] X.env)).all (fun x => !x.1) && (backToKw cpos (keywordEach [] X.env)).all (fun x => x.1.isSome)
      && decide ([e].length + ([] : List Keyword).length + (if ([] : List Keyword).isEmpty then 0 else 1) < 30)) = true := by rfl)
    (hline : (apos.endLine == cpos.line) = true := by rfl) (hs : starEach [e] X.env = (false, eval e X.env) :: starEach [] X.env := by rfl) (hplain : (backTo cpos (starEach [] X.env)).any (·.1) = false := by rfl) :
    DE X W (.Call (.Attribute (.Name x px) "append" apos) [e] [] cpos) (dAppend i d) :=
  PE.weak (pe_bm PySem.F.plainAttrs_list PySem.F.slot_list_append PySem.F.type_list_append mt_append ho (pa_cons he pa_nil hs) hbase hfew hline hs hplain) fun σ H Q ⟨Fo, A, ρ, S, p⟩ => by
    unfold dAppend at p
    cases hi : ρ[i]? with
    | none => rw [hi] at p; exact p.elim
    | some o =>
      rw [hi] at p
      cases o with
      | none => exact p.elim
      | some r =>
        cases r with
        | val d => exact p.elim
        | own m =>
          cases m with
          | lst xs0 =>
            obtain ⟨a, vs, e1, e2, e3⟩ := own_lst S hi
            refine ⟨.ref a, e1, .inl ⟨rfl, _, .inl (.inl e2)⟩, Fo, A, ρ, S, post_bind p fun y dy A1 H1 ρ1 x1 S1 r1 p1 => ?_⟩
            cases hj : ρ1[i]? with
            | none => rw [hj] at p1; exact p1.elim
            | some o' =>
              rw [hj] at p1
              cases o' with
              | none => exact p1.elim
              | some r' =>
                cases r' with
                | val d => exact p1.elim
                | own m' =>
                  cases m' with
                  | lst xs =>
                    obtain ⟨hl, p2⟩ := ifB (P := fun z : ERes => Post X.K W Fo A1 σ z Q) p1 (fun z => z)
                    obtain ⟨b, ws, f1, f2, f3⟩ := own_lst S1 hj
                    rw [e1] at f1; cases f1
                    exact ⟨a, ws, y, rfl, rfl, f2, by rw [f3.length]; exact hl, p2 _ A1 _ (Evl.Ex.refl _) (S1.write hj e1 (.lst (f3.append (.one r1)))) (.val .non)⟩
                  | _ => exact p1.elim
          | _ => exact p.elim
/-- x[j] = e, x slot i's own list: e first, then j -/
def sSetIx (i : Nat) (dj : DEn) (d : DEn) : DSt := fun ρ => (d ρ).asVal.thenS fun r ρ1 => match ρ1[i]? with
  | some (some (.own (.lst _))) => (dj ρ1).asVal.thenS fun j ρ2 => (match ρ2[i]?, j with
    | some (some (.own (.lst xs))), .val (.int k) => (match ixN xs.length k with
      | some n => .nx (ρ2.set i (some (.own (.lst (xs.set n r.toD)))))
      | none => .bad)
    | _, _ => .bad)
  | _ => .bad
theorem ds_setIx {x : Str} {i : Nat} {j e : Expr} {dj d : DEn} {px pos' pos : Pos} (ho : PE X (.Name x px) (tVar i)) (hj : DE X W j dj) (he : DE X W e d)
    (ha : ∀ v, assign (.Subscript (.Name x px) j pos') X.env v = (do
      let ov ← holding [v] (eval (.Name x px) X.env)
      let iv ← holding [v, ov] (eval j X.env)
      standAt pos'
      holding [v, ov, iv] (setItem ov iv v)
      release [v, ov, iv] []) := by intro _; rfl)
    (hs : swapsWithSole [.Subscript (.Name x px) j pos'] e pos.line X.env = pure false := by rfl) (hw : swappedStores [.Subscript (.Name x px) j pos'] e X.env = pure none := by rfl)
    (h1 : (assignEach [.Subscript (.Name x px) j pos'] X.env).map (·.2) = [assign (.Subscript (.Name x px) j pos') X.env] := by rfl) : DS X W P (.Assign [.Subscript (.Name x px) j pos'] e pos) (sSetIx i dj d) :=
  PS.weak (ps_asg he (pg_sub ho hj set_list (ha := ha)) hs hw h1) fun D σ H ⟨Fo, A, ρ, S, p⟩ => ⟨Fo, A, ρ, S, Post.asVal (post_then p fun v r A1 H1 ρ1 e1 S1 rv q => by
    have key : ∀ {A2 : Hp} {d2 : DL.D}, Ex A1 A2 → Sat X.K Fo A2 H1 σ ρ1 → Rep X.K A2 v d2 → r.toD = d2 → gSub (tVar i) (rd X.K W dj) rSetL v σ H1 D.nx := fun {A2 d2} e2 S2 r2 hd => by
      rw [hd] at q
      cases hi : ρ1[i]? with
      | none => rw [hi] at q; exact q.elim
      | some o =>
        rw [hi] at q
        cases o with
        | none => exact q.elim
        | some rr =>
          cases rr with
          | val _ => exact q.elim
          | own m =>
            cases m with
            | lst xs0 =>
              obtain ⟨a, vs, g1, g2, g3⟩ := own_lst S2 hi
              refine ⟨.ref a, g1, Fo, A2, ρ1, S2, Post.asVal (post_then (PostS.from q (Keep.refl _ _) e2) fun vj rj A3 H3 ρ3 e3 S3 rvj q3 => ?_)⟩
              cases hk : ρ3[i]? with
              | none => rw [hk] at q3; exact q3.elim
              | some o3 =>
                rw [hk] at q3
                cases o3 with
                | none => exact q3.elim
                | some r3 =>
                  cases r3 with
                  | val _ => exact q3.elim
                  | own m3 =>
                    cases m3 with
                    | lst xs =>
                      obtain ⟨b, ws, f1, f2, f3⟩ := own_lst S3 hk
                      rw [g1] at f1; cases f1
                      cases rvj with
                      | own => exact q3.elim
                      | val rvj =>
                        cases rvj with
                        | int k =>
                          dsimp only at q3
                          cases hx : ixN xs.length k with
                          | none => rw [hx] at q3; exact q3.elim
                          | some n =>
                            rw [hx] at q3
                            exact ⟨a, ws, k, n, rfl, rfl, f2, by rw [f3.length]; exact hx, q3 σ A3 _ (Keep.refl _ _) (Evl.Ex.refl _) (S3.write hk g1 (.lst (f3.set n (r2.mn e3))))⟩
                        | _ => exact q3.elim
                    | _ => exact q3.elim
            | _ => exact q.elim
    cases rv with
    | val rv => exact key (Evl.Ex.refl _) S1 rv rfl
    | own h1 h2 h3 h4 h5 => exact key (Ex.new h1) (S1.anchor h1 h2 h3 h5) (h4.freeze h1) rfl)⟩

/-! ### raise C('..') -/
structure ExcOk (X : Cx) (C : String) : Prop where
  ok : ∃ B newId initId bmB, ExcBaseFacts B newId initId bmB ∧ PySem.W.excIn X.K (He.ga X.K (Str.ofString C)) bmB newId = true
  kp : PySem.W.keepIn X.K (.ref (He.ga X.K (Str.ofString C))) = true
  ra : Raises X (.ref (He.ga X.K (Str.ofString C)))
theorem ds_raise {x : Str} {C : String} {m : Str} {j : Nat} {p p2 p3 pos : Pos} (E : ExcOk X C) (hc : X.calm = true) (tk : Takes X W) (hg : Gl X x) (hm : X.mg x = some (.ref (He.ga X.K (Str.ofString C)))) (hdb : (x == ("__debug__" : Str)) = false := by decide) :
    DS X W P (.Raise (some (.Call (.Name x p) [.Constant (.str m) j p2] [] p3)) none pos) (fun ρ => .exc ⟨C, [], []⟩ ρ) := by
  obtain ⟨⟨B, n, i, b, F, q⟩, kp, ra⟩ := E
  exact PS.weak (ps_raise hc tk (pmk_own F q hm kp ra hg hdb)) fun D σ H ⟨Fo, A, ρ, S, p⟩ => p _ none σ A H (Keep.refl _ _) (Evl.Ex.refl _) S ⟨rfl, fun _ => rfl, fun h => absurd rfl h⟩

/-! ### try: body, except C as n: return e -/
/-- what exceptions a clause catches: (the exception's class, the clause's class, whether) -/
def ExmOk (K : PySem.W.Frag) (tab : List ((String × String) × Bool)) : Prop := ∀ q ∈ tab, PySem.W.exmOne K (.ref (He.ga K (Str.ofString q.1.1))) (.ref (He.ga K (Str.ofString q.1.2))) = some q.2
def sTryRet (tab : List ((String × String) × Bool)) (body : DSt) (c : String) (i : Nat) (vx : Xc → Slots → R) : DSt := fun ρ => match body ρ with
  | .exc x ρ1 => (match tab.lookup (x.cls, c) with
    | some true => if i < ρ1.length ∧ x.ns = [] then .rt (vx x ρ1) (ρ1.set i none) else .bad
    | some false => .exc x ρ1
    | none => .bad)
  | r => r
def isV : R → Bool
  | .val _ => true
  | _ => false
theorem Sat.noneSlot {K : PySem.W.Frag} {Fo A H : Hp} {σ : L2.St} {ρ : Slots} (S : Sat K Fo A H σ ρ) (i : Nat) (v : Option V) : Sat K Fo A H (σ.set i v) (ρ.set i none) := by
  have gt : ∀ (j : Nat) (r : R), (ρ.set i none)[j]? = some (some r) → i ≠ j ∧ ρ[j]? = some (some r) := fun j r h => by
    rw [List.getElem?_set] at h
    split at h
    · split at h <;> cases h
    · rename_i e; exact ⟨e, h⟩
  exact (S.forget (by rw [List.length_set]) fun j r h => (gt j r h).2).slots (by rw [List.length_set]) fun j r h => List.getElem?_set_ne (gt j r h).1
theorem ds_tryRet {tab : List ((String × String) × Bool)} {x n : Str} {C : String} {i : Nat} {body : List Stmt} {e : Expr} {np pos pos' rp : Pos} {sb : DSt} {vx : Xc → Slots → R} (T : ExmOk X.K tab) (hs : X.stack = X.env :: X.outer) (hf : X.env.frame = some X.env.locals) (hN : X.N.Nodup) (hi : X.N[i]? = some n) (hln : X.env.kindOf n = some .local) (hP : i ∉ P)
    (hc : Names X x (.ref (He.ga X.K (Str.ofString C)))) (tk : Takes X W)
    (hb : ∀ (W : WX) (pn : List (Addr × Obj)) (xe : Value → Shared → Prop), Takes (X.tr pn xe) W → PassesOwn (model X.prog X.w) X.A X.env xe → DSs (X.tr pn xe) W P body sb)
    (hsu : ∀ z : Xc, tab.lookup (z.cls, C) = some true → ∃ dx : Addr → DEn, (∀ a ρ, i < ρ.length → ∃ d, vx z ρ = .val d ∧ dx a (ρ.set i (some (.val (.adr a)))) = .ok (vx z ρ) (ρ.set i (some (.val (.adr a))))) ∧ ∀ (a : Addr) (oe : Obj) (pn : List (Addr × Obj)), Zc (.ref (He.ga X.K (Str.ofString z.cls))) none oe → (∃ vs, oe.data = .fields vs) →
      DE (X.suite a ((a, oe) :: pn)) W0 e (dx a)) :
    DS X W P (.Try body [.ExceptHandler (some (.Name x np)) (some n) [.Return (some e) rp] pos'] [] [] pos) (sTryRet tab sb C i vx) := by
  -- what the suite is to do
  refine PS.weak (ps_try_as (tb := fun W => rdS X.K W P sb) (ts := fun a cls d => fun D σ H => ∃ z Fo A ρ, cls = .ref (He.ga X.K (Str.ofString z.cls)) ∧ d = none ∧ tab.lookup (z.cls, C) = some true ∧ i < ρ.length ∧ Sat X.K Fo A H σ (ρ.set i (some (.val (.adr a)))) ∧
      ∀ v A' H', Ex A A' → Sat X.K Fo A' H' σ (ρ.set i (some (.val (.adr a)))) → RepR X.K Fo A' H' σ (ρ.set i (some (.val (.adr a)))) v (vx z ρ) → D.rt v H') hs hf hN hi hln hc tk hb (fun a oe cls d pn hz hfl => ⟨fun pins s σ H D I h => ?_⟩)) fun D σ H ⟨Fo, A, ρ, S, p⟩ => ?_
  · obtain ⟨z, Fo, A, ρ, rfl, rfl, hd, hlt, S, k⟩ := h
    obtain ⟨dx, hv, hde⟩ := hsu z hd
    refine (pss_one (ps_ret (pos := rp) (hde a oe pn hz hfl))).run pins s σ H D I ⟨Fo, A, _, S, ?_⟩
    obtain ⟨_, _, e2⟩ := hv a ρ hlt
    rw [e2]
    exact k
  · refine ⟨Fo, A, ρ, S, ?_⟩
    unfold sTryRet at p
    cases hr : sb ρ with
    | nx ρ1 => rw [hr] at p; exact p
    | rt r ρ1 => rw [hr] at p; exact p
    | bk ρ1 => rw [hr] at p; exact p
    | ct ρ1 => rw [hr] at p; exact p
    | bad => rw [hr] at p; exact p
    | exc z ρ1 =>
      rw [hr] at p
      dsimp only at p
      intro cls dct σ' A' H' kp e' S' rx
      obtain ⟨rfl, hdn, hdf⟩ := rx
      cases hl : tab.lookup (z.cls, C) with
      | none => rw [hl] at p; exact p.elim
      | some b =>
        rw [hl] at p
        have ex := T _ (lookup_mem hl)
        cases b with
        | false => exact ⟨false, ex, fun h => absurd h (by decide), fun _ => p _ dct σ' A' H' kp e' S' ⟨rfl, hdn, hdf⟩⟩
        | true =>
          dsimp only at p
          by_cases hlt' : i < ρ1.length ∧ z.ns = []
          · rw [if_pos hlt'] at p
            have hlt := hlt'.1
            refine ⟨true, ex, fun _ a ha => ⟨z, Fo, A', ρ1, rfl, hdn hlt'.2, hl, hlt, S'.setD (.adr a), fun v A2 H2 e2 S2 rv => ?_⟩, fun h => by cases h⟩
            obtain ⟨dx, hv, _⟩ := hsu z hl
            obtain ⟨dd, hvx, _⟩ := hv 0 ρ1 hlt
            rw [hvx] at p rv
            cases rv with
            | val rv =>
              refine p v _ A2 H2 (kp.trans (Keep.set hP)) (e'.trans e2) (S2.forget (by rw [List.length_set, List.length_set]) fun j r h => ?_) (.val rv)
              by_cases hij : i = j
              · subst hij; rw [List.getElem?_set_self hlt] at h; cases h
              · rw [List.getElem?_set_ne hij] at h ⊢; exact h
          · rw [if_neg hlt'] at p; exact p.elim
/-- the answer taken as data -/
def dVal (d : DEn) : DEn := fun ρ => (d ρ).asVal
theorem de_val {X : Cx} {W : WX} {e : Expr} {d : DEn} (h : DE X W e d) : DE X W e (dVal d) := PE.weak h fun σ H Q ⟨Fo, A, ρ, S, p⟩ => ⟨Fo, A, ρ, S, Post.asVal p⟩
/-- isinstance(e, C) of the exception that the suite holds -/
def dIsE (i : Nat) (a : Addr) (b : Bool) : DEn := fun ρ => match ρ[i]? with
  | some (some (.val (.adr a'))) => if a' = a then .ok (.val (.bl b)) ρ else .bad
  | _ => .bad
theorem de_isE {i : Nat} {n : Str} {D0 : Addr} {a : Addr} {oe : Obj} {pn : List (Addr × Obj)} {ce : Expr} {cv : V} {cu : Value} {b : Bool} {p pos pn' : Pos} (Ec : ExcC X.K D0) (hz : Zc (.ref D0) none oe) (hfl : ∃ vs, oe.data = .fields vs) (hk : PySem.W.kitOne X.K (.ref D0) cu = some b)
    (hn : PE (X.suite a ((a, oe) :: pn)) (.Name n pn') (tVar i)) (hce : PE (X.suite a ((a, oe) :: pn)) ce (tC cv)) (hcv : ∀ u, RelV cv u → u = cu) (hg : Gl X "isinstance") (hm : X.mg "isinstance" = none)
    (h1 : starEach [.Name n pn', ce] X.env = (false, eval (.Name n pn') X.env) :: starEach [ce] X.env := by rfl) (h2 : starEach [ce] X.env = (false, eval ce X.env) :: starEach [] X.env := by rfl) (hpl : (backTo pos (starEach [ce] X.env)).any (·.1) = false := by rfl) :
    DE (X.suite a ((a, oe) :: pn)) W0 (.Call (.Name "isinstance" p) [.Name n pn', ce] [] pos) (dIsE i a b) := by
  refine PE.weak (pe_callB (X := X.suite a ((a, oe) :: pn)) (call_isE Ec hz hfl) hg hm (by decide +kernel) (pa_cons hn (pa_cons hce pa_nil h2) h1) (by decide) (by decide) h1 hpl) fun σ H Q ⟨Fo, A, ρ, S, q⟩ => ?_
  unfold dIsE at q
  cases hi : ρ[i]? with
  | none => rw [hi] at q; exact q.elim
  | some o =>
    rw [hi] at q
    cases o with
    | none => exact q.elim
    | some r =>
      cases r with
      | own m => exact q.elim
      | val d =>
        cases d with
        | adr a' =>
          obtain ⟨v, e1, e2⟩ := S.val i _ hi
          obtain ⟨he, q2⟩ := ifB (P := fun z : ERes => Post X.K W0 Fo A σ z Q) q (fun z => z)
          clear q
          subst he
          cases e2
          exact ⟨_, e1, cv, cu, b, rfl, hcv, hk, Post.now q2 S (.bl _)⟩
        | _ => exact q.elim
end

/-! ### a def by its body -/
def ownsIn (P : List Nat) : Nat → Slots → Bool
  | _, [] => true
  | n, some (.own _) :: r => P.contains n && ownsIn P (n + 1) r
  | n, _ :: r => ownsIn P (n + 1) r
def backD : Slots → Slots → Slots
  | some (.own _) :: rs, r :: ρ => r :: backD rs ρ
  | x :: rs, _ :: ρ => x :: backD rs ρ
  | rs, [] => rs.map fun _ => none
  | [], _ => []
/-- what a def with N names, its own parameters at P, does by its body s -/
def callC (N : Nat) (P : List Nat) (s : DSt) : DEn := fun rs => if ownsIn P 0 rs then (match s (rs ++ List.replicate (N - rs.length) none) with
  | .rt r ρ => .ok r (backD rs ρ)
  | .nx ρ => .ok (.val .non) (backD rs ρ)
  | .exc x ρ => .exc x (backD rs ρ)
  | _ => .bad) else .bad
theorem ownsIn_get {P : List Nat} {m : M} : ∀ {n : Nat} {rs : Slots} {i : Nat}, ownsIn P n rs = true → rs[i]? = some (some (.own m)) → n + i ∈ P
  | n, [], i, _, h => by simp at h
  | n, some (.own _) :: r, 0, h, _ => by
    have := (Bool.and_eq_true_iff.mp h).1
    simpa using this
  | n, none :: r, 0, _, h => by simp at h
  | n, some (.val _) :: r, 0, _, h => by simp at h
  | n, some (.own _) :: r, i + 1, h, q => by
    have := ownsIn_get (n := n + 1) (i := i) (Bool.and_eq_true_iff.mp h).2 (by simpa using q)
    rw [show n + (i + 1) = n + 1 + i by omega]; exact this
  | n, none :: r, i + 1, h, q => by
    have := ownsIn_get (n := n + 1) (i := i) (show ownsIn P (n + 1) r = true from h) (by simpa using q)
    rw [show n + (i + 1) = n + 1 + i by omega]; exact this
  | n, some (.val _) :: r, i + 1, h, q => by
    have := ownsIn_get (n := n + 1) (i := i) (show ownsIn P (n + 1) r = true from h) (by simpa using q)
    rw [show n + (i + 1) = n + 1 + i by omega]; exact this
theorem backD_len : ∀ (rs ρ : Slots), (backD rs ρ).length = rs.length
  | some (.own _) :: rs, r :: ρ => congrArg Nat.succ (backD_len rs ρ)
  | some (.val _) :: rs, _ :: ρ => congrArg Nat.succ (backD_len rs ρ)
  | none :: rs, _ :: ρ => congrArg Nat.succ (backD_len rs ρ)
  | [], [] => rfl
  | [], _ :: _ => rfl
  | x :: rs, [] => by cases x with
    | none => simp [backD]
    | some r => cases r <;> simp [backD]
theorem backD_get {i : Nat} {r : R} : ∀ {rs ρ : Slots}, (backD rs ρ)[i]? = some (some r) → (∃ m, rs[i]? = some (some (.own m)) ∧ ρ[i]? = some (some r)) ∨ (∃ d, r = .val d ∧ rs[i]? = some (some (.val d)))
  | some (.own m) :: rs, q :: ρ, h => by
    cases i with
    | zero => exact .inl ⟨m, rfl, by simpa [backD] using h⟩
    | succ i =>
      have := backD_get (i := i) (rs := rs) (ρ := ρ) (by simpa [backD] using h)
      simpa using this
  | some (.val d) :: rs, q :: ρ, h => by
    cases i with
    | zero => exact .inr ⟨d, by simpa [backD] using h.symm, rfl⟩
    | succ i =>
      have := backD_get (i := i) (rs := rs) (ρ := ρ) (by simpa [backD] using h)
      simpa using this
  | none :: rs, q :: ρ, h => by
    cases i with
    | zero => simp [backD] at h
    | succ i =>
      have := backD_get (i := i) (rs := rs) (ρ := ρ) (by simpa [backD] using h)
      simpa using this
  | [], [], h => by simp [backD] at h
  | [], _ :: _, h => by simp [backD] at h
  | x :: rs, [], h => by
    exfalso
    have e : backD (x :: rs) [] = (x :: rs).map fun _ => none := by cases x with
      | none => simp [backD]
      | some r => cases r <;> simp [backD]
    rw [e, List.getElem?_map] at h
    cases q : (x :: rs)[i]? with
    | none => rw [q] at h; cases h
    | some o => rw [q] at h; cases h
section
variable {K : PySem.W.Frag} {Fo A A' H H' : Hp} {N : List Str} {vs : List V} {rs ρ' : Slots} {σ' : L2.St} {P : List Nat}
theorem start_get {i : Nat} {v : V} (h : vs[i]? = some v) : (L2.start N vs)[i]? = some (some v) := by
  unfold L2.start
  rw [List.getElem?_append_left (by rw [List.length_map]; exact (List.getElem?_eq_some_iff.mp h).1), List.getElem?_map, h] <;> rfl
theorem pad_get {n i : Nat} {r : R} (h : (rs ++ List.replicate n none)[i]? = some (some r)) : rs[i]? = some (some r) := by
  by_cases hi : i < rs.length
  · rw [List.getElem?_append_left hi] at h; exact h
  · rw [List.getElem?_append_right (by omega), List.getElem?_replicate] at h
    split at h <;> cases h
theorem Sat.atStart (S : Sat K Fo A H (vs.map some) rs) : Sat K Fo A H (L2.start N vs) (rs ++ List.replicate (N.length - rs.length) none) := by
  have len : vs.length = rs.length := by rw [← S.len, List.length_map]
  refine ⟨S.ex, S.fo, by unfold L2.start; rw [List.length_append, List.length_map, List.length_replicate, List.length_append, List.length_replicate, len], fun i d h => ?_, fun i m h => ?_, fun i j m m' a h1 h2 h3 h4 => ?_⟩
  · obtain ⟨v, e1, e2⟩ := S.val i d (pad_get h)
    exact ⟨v, start_get (mapS' e1), e2⟩
  · obtain ⟨a, o, e1, e⟩ := S.own i m (pad_get h)
    exact ⟨a, o, start_get (mapS' e1), e⟩
  · obtain ⟨a1, o1, e1, _⟩ := S.own i m (pad_get h1)
    obtain ⟨a2, o2, e2, _⟩ := S.own j m' (pad_get h2)
    have f1 := start_get (N := N) (mapS' e1)
    have f2 := start_get (N := N) (mapS' e2)
    rw [h3] at f1; cases f1
    rw [h4] at f2; cases f2
    exact S.inj i j m m' a (pad_get h1) (pad_get h2) e1 e2
theorem Sat.atEnd (S : Sat K Fo A H (vs.map some) rs) (ow : ownsIn P 0 rs = true) (e : Ex A A') (kp : Keep P (L2.start N vs) σ') (S' : Sat K Fo A' H' σ' ρ') : Sat K Fo A' H' (vs.map some) (backD rs ρ') := by
  have slot : ∀ (i : Nat) (m : M), rs[i]? = some (some (.own m)) → ∃ a, (vs.map some)[i]? = some (some (V.ref a)) ∧ σ'[i]? = some (some (V.ref a)) := fun i m h => by
    obtain ⟨a, o, e1, _⟩ := S.own i m h
    have hp : i ∈ P := by have := ownsIn_get ow h; simpa using this
    exact ⟨a, e1, (kp i hp).trans (start_get (mapS' e1))⟩
  have ownB : ∀ (i : Nat) (m : M), (backD rs ρ')[i]? = some (some (.own m)) → (∃ m0, rs[i]? = some (some (.own m0))) ∧ ρ'[i]? = some (some (.own m)) := fun i m h => by
    rcases backD_get h with ⟨m0, h1, h2⟩ | ⟨d, h1, _⟩
    · exact ⟨⟨m0, h1⟩, h2⟩
    · cases h1
  refine ⟨S'.ex, S'.fo, by rw [backD_len]; exact S.len, fun i d h => ?_, fun i m h => ?_, fun i j m m' a h1 h2 h3 h4 => ?_⟩
  · rcases backD_get h with ⟨m0, h1, h2⟩ | ⟨d', h1, h2⟩
    · obtain ⟨a, e1, e2⟩ := slot i m0 h1
      obtain ⟨v, f1, f2⟩ := S'.val i d h2
      rw [e2] at f1; cases f1
      exact ⟨_, e1, f2⟩
    · cases h1
      obtain ⟨v, f1, f2⟩ := S.val i d h2
      exact ⟨v, f1, f2.mn e⟩
  · obtain ⟨⟨m0, h1⟩, h2⟩ := ownB i m h
    obtain ⟨a, e1, e2⟩ := slot i m0 h1
    obtain ⟨b, o, f1, f⟩ := S'.own i m h2
    rw [e2] at f1; cases f1
    exact ⟨a, o, e1, f⟩
  · obtain ⟨⟨m0, g1⟩, g2⟩ := ownB i m h1
    obtain ⟨⟨m1, g3⟩, g4⟩ := ownB j m' h2
    obtain ⟨a1, e1, e2⟩ := slot i m0 g1
    obtain ⟨a2, e3, e4⟩ := slot j m1 g3
    rw [h3] at e1; cases e1
    rw [h4] at e3; cases e3
    exact S'.inj i j m m' a g2 g4 e2 e4
theorem RepR.atEnd (S : Sat K Fo A H (vs.map some) rs) (ow : ownsIn P 0 rs = true) (kp : Keep P (L2.start N vs) σ') {v : V} {r : R} (h : RepR K Fo A' H' σ' ρ' v r) : RepR K Fo A' H' (vs.map some) (backD rs ρ') v r := by
  cases h with
  | val h => exact .val h
  | own h1 h2 h3 h4 h5 =>
    refine .own h1 h2 h3 h4 fun i m g1 g2 => ?_
    rcases backD_get g1 with ⟨m0, q1, q2⟩ | ⟨d, q1, _⟩
    · obtain ⟨a, o, e1, _⟩ := S.own i m0 q1
      have hp : i ∈ P := by have := ownsIn_get ow q1; simpa using this
      have e2 := (kp i hp).trans (start_get (N := N) (mapS' e1))
      rw [g2] at e1; cases e1
      exact h5 i m q2 e2
    · cases q1
end
/-- THE RULE for a def: its body's derivation -/
theorem fnok_of {P : Program} {w : World} {K : PySem.W.Frag} {mg : Str → Option Value} {base : Heap} {x qual : Str} {params : Arguments} {body : List Stmt} {scope : Scope} {f : Addr} {fd : FuncData} {N ps : List Str} {k : Nat} {Pw : List Nat} {s : DSt} (F : FunD K x qual params body scope [] [] f fd) (S : FnScope N ps scope)
    (hbody : ∀ (cdv : Value) (A : Around) (outer : List Env) (s0 : Shared) (H : Hp) (E : XK), Room k (A.deeper (PyProof.Rows.envOfC qual scope s0.heap.objs.size f cdv)) → DSs (cxOf (L2.CX P w) P w K mg base N qual scope f cdv A outer s0 H E) (fun cls d _ H => E cls d H) Pw body s) :
    FnOk P w K mg base (L2.CX P w) (k + 1) f fd ps (spD K ps.length (callC N.length Pw s)) := by
  refine F.ok S (fun vs H Q E h => h.1) (fun cdv A outer s0 H vs Q E hr h => ?_)
  refine ⟨rdS K (fun cls d _ H => E cls d H) Pw s, hbody cdv A outer s0 H E hr, ?_⟩
  obtain ⟨hl, Fo, A, rs, S, p⟩ := h
  refine ⟨Fo, A, _, S.atStart, ?_⟩
  obtain ⟨ow, p⟩ := ifB (P := fun z : ERes => Post K (fun cls d _ H => E cls d H) Fo A (vs.map some) z Q) p (fun z => z)
  cases hr : s (rs ++ List.replicate (N.length - rs.length) none) with
  | nx ρ' => rw [hr] at p; exact fun σ' A' H' kp e S' => p .non A' H' e (S.atEnd ow e kp S') (.val .non)
  | rt r ρ' => rw [hr] at p; exact fun v σ' A' H' kp e S' rv => p v A' H' e (S.atEnd ow e kp S') (RepR.atEnd S ow kp rv)
  | exc x ρ' => rw [hr] at p; exact fun cls dct σ' A' H' kp e S' rx => p cls dct A' H' e (S.atEnd ow e kp S') rx
  | bk ρ' => rw [hr] at p; exact p.elim
  | ct ρ' => rw [hr] at p; exact p.elim
  | bad => rw [hr] at p; exact p.elim

theorem FdOk.of {P : Program} {w : World} {K : PySem.W.Frag} {mg : Str → Option Value} {base : Heap} {x qual : Str} {params : Arguments} {body : List Stmt} {scope : Scope} {f : Addr} {fd : FuncData} {N ps : List Str} {k : Nat} {Pw : List Nat} {s : DSt} (F : FunD K x qual params body scope [] [] f fd) (S : FnScope N ps scope)
    (hb : ∀ (kV doc pm : Value) (an : Option Addr) (cdv ct : Value) (us : List Value), us.length = ps.length → bindArgs (PySem.W.fnOf x qual params body scope .none kV doc pm an cdv ct) ⟨us, []⟩ = pure (ps.zip us))
    (hbody : ∀ (cdv : Value) (A : Around) (outer : List Env) (s0 : Shared) (H : Hp) (E : XK), Room k (A.deeper (PyProof.Rows.envOfC qual scope s0.heap.objs.size f cdv)) → DSs (cxOf (L2.CX P w) P w K mg base N qual scope f cdv A outer s0 H E) (fun cls d _ H => E cls d H) Pw body s) :
    FdOk P w K mg base (k + 1) f ps.length (callC N.length Pw s) := ⟨fd, ps, fnok_of F S hbody, F.bindsN hb, F.kp⟩
end DL

set_option maxRecDepth 100000
set_option maxHeartbeats 2000000
/-! DL11: the facts that the head tells. -/
namespace DL
open PySem PySem.Spec L2
open Evl (Ex)
open He (ga ma)

/-- a class by its name -/
abbrev cad (K : PySem.W.Frag) (C : String) : Addr := ga K (Str.ofString C)
def pAd (K : PySem.W.Frag) (C : String) (f : Str) : Addr := match PySem.W.findIn K (.ref (cad K C)) f with
  | some (some (.ref p)) => p
  | _ => 0
def gAd (K : PySem.W.Frag) (C : String) (f : Str) : Addr := match PySem.W.recIn K (pAd K C f) "property" with
  | some (.ref g :: _) => g
  | _ => 0
inductive Fx where
  | glo (x : String)
  | free (x : String)
  | int (x : String) (i : Int)
  | str (x z : String)
  | cls (C : String)
  | noat (C : String) (f : String)
  | own (C : String) (m : String)
  | mkr (C : String)
  | exc (C : String) (bm : List Value) (new : String)
  | kit (t c : Tn) (b : Bool)
  | clsI (C : String)
  | exm (x c : String) (b : Bool)
  | excC (C : String)
  | prop (C f : String)
  | first (C : String)
  | nfirst (C : String) (t : Tn)
  | neo (C : String)
  | noR (C : String) (m : String)
  | lst (x : String) (zs : List String)
def strsV : List Value → List String → Bool
  | [], [] => true
  | .str y _ :: vs, z :: zs => decide (y = Str.ofString z) && strsV vs zs
  | _, _ => false
def lstO (o : Obj) (zs : List String) : Bool := match o with
  | ⟨.type c, none, .seq its _, _⟩ => decide (c = "list") && (decide (its.size ≤ sizeLine) && strsV its.toList zs)
  | _ => false
def Fx.ok (K : PySem.W.Frag) : Fx → Bool
  | .glo x => decide (PySem.W.nsIn K mainGlobals (Str.ofString x) = some (some (.ref (cad K x))))
  | .free x => decide (PySem.W.nsIn K mainGlobals (Str.ofString x) = some none)
  | .int x i => (match PySem.W.nsIn K mainGlobals (Str.ofString x) with
    | some (some (.int j _)) => decide (j = i)
    | _ => false)
  | .str x z => (match PySem.W.nsIn K mainGlobals (Str.ofString x) with
    | some (some (.str y _)) => decide (y = Str.ofString z)
    | _ => false)
  | .cls C => PySem.W.plainGet K (cad K C) Str.empty && (PySem.W.hasDictIn K (cad K C) && (PySem.W.plainOver K (cad K C) && decide (PySem.W.findIn K (.ref (cad K C)) "__setattr__" = some (some (.builtin "object.__setattr__")))))
  | .noat C f => decide (PySem.W.findIn K (.ref (cad K C)) (Str.ofString f) = some none)
  | .own C m => decide (PySem.W.findIn K (.ref (cad K C)) (Str.ofString m) = some (some (.ref (ma K (cad K C) (Str.ofString m))))) && (PySem.W.isFn K (.ref (ma K (cad K C) (Str.ofString m))) && PySem.W.keepIn K (.ref (ma K (cad K C) (Str.ofString m))))
  | .mkr C => PySem.W.makesIn K (cad K C) && (decide (PySem.W.findIn K (.ref (cad K C)) "__init__" = some (some (.ref (ma K (cad K C) "__init__")))) && (PySem.W.isFn K (.ref (ma K (cad K C) "__init__")) && PySem.W.keepIn K (.ref (cad K C))))
  | .exc C bm new => PySem.W.excIn K (cad K C) bm new && (PySem.W.keepIn K (.ref (cad K C)) && (decide (PySem.W.subIn K (.ref (cad K C)) (.type "BaseException") = some true) && decide (PySem.W.typeIn K (.ref (cad K C)) = some (.type "type"))))
  | .kit t c b => decide (PySem.W.kitOne K (t.code K) (c.code K) = some b)
  | .clsI C => decide (PySem.W.findIn K (.ref (cad K C)) "__class__" = some (some (.builtin "object.__class__"))) && (decide (PySem.W.specialIn K (.builtin "object.__class__") "__get__" = some (some (.builtin "getset_descriptor.__get__"))) &&
      (decide (PySem.W.takesIn K (.builtin "object.__class__") = some true) && decide (PySem.W.mroIn K (cad K C) (.type "object") = some true)))
  | .exm x c b => decide (PySem.W.exmOne K (.ref (cad K x)) (.ref (cad K c)) = some b)
  | .excC C => decide (PySem.W.findIn K (.ref (cad K C)) "__getattribute__" = some (some (.builtin "BaseException.__getattribute__"))) && (decide (PySem.W.findIn K (.ref (cad K C)) "__getattr__" = some none) &&
      (decide (PySem.W.subIn K (.ref (cad K C)) (.type "BaseException") = some true) && (PySem.W.hasDictIn K (cad K C) && (decide (PySem.W.findIn K (.ref (cad K C)) "__class__" = some (some (.builtin "object.__class__"))) &&
      (decide (PySem.W.specialIn K (.builtin "object.__class__") "__get__" = some (some (.builtin "getset_descriptor.__get__"))) && (decide (PySem.W.takesIn K (.builtin "object.__class__") = some true) && decide (PySem.W.mroIn K (cad K C) (.type "object") = some true)))))))
  | .prop C f => decide (PySem.W.findIn K (.ref (cad K C)) (Str.ofString f) = some (some (.ref (pAd K C (Str.ofString f))))) && (decide (PySem.W.specialIn K (.ref (pAd K C (Str.ofString f))) "__get__" = some (some (.builtin "property.__get__"))) &&
      (decide (PySem.W.takesIn K (.ref (pAd K C (Str.ofString f))) = some true) && (match PySem.W.recIn K (pAd K C (Str.ofString f)) "property" with
        | some (.ref g :: _) => true
        | _ => false)))
  | .first C => PySem.W.selfFirst K (cad K C)
  | .nfirst C t => PySem.W.notFirst K (cad K C) (t.code K)
  | .neo C => decide (PySem.W.findIn K (.ref (cad K C)) "__ne__" = some (some (.builtin "object.__ne__"))) && decide (PySem.W.mroIn K (cad K C) (.type "object") = some true)
  | .lst x zs => (match PySem.W.nsIn K mainGlobals (Str.ofString x) with
    | some (some (.ref a)) => (match K.lookup a with
      | some o => lstO o zs
      | none => false)
    | _ => false)
  | .noR C m => decide (PySem.W.findIn K (.ref (cad K C)) (Str.ofString m) = some none) && decide (PySem.W.subIn K (.type "int") (.ref (cad K C)) = some false)
/-! ### defs -/
inductive At where
  | glo (x : String)
  | met (C m : String)
  | prop (C f : String)
def At.ad (K : PySem.W.Frag) : At → Addr
  | .glo x => cad K x
  | .met C m => ma K (cad K C) (Str.ofString m)
  | .prop C f => gAd K C (Str.ofString f)
structure Dx where
  at_ : At
  name : Str
  qual : Str
  params : Arguments
  body : List Stmt
  scope : Scope
abbrev FnO : Type := Option (Str × Str × Arguments × FuncBody × Scope × Addr × List (Str × Addr) × Addr)
def fnO (K : PySem.W.Frag) (a : Addr) : FnO := match K.lookup a with
  | some ⟨_, _, .func fd, _⟩ => some (fd.name, fd.qualname, fd.params, fd.body, fd.scope, fd.globals, fd.closure, fd.builtins)
  | _ => none
def Dx.val (d : Dx) : FnO := some (d.name, d.qual, d.params, .stmts d.body, d.scope, mainGlobals, [], builtinsNs)
def isNoneV : Value → Bool
  | .none => true
  | _ => false
def Dx.ok (K : PySem.W.Frag) (d : Dx) : Bool := PySem.W.keepIn K (.ref (d.at_.ad K)) && (match K.lookup (d.at_.ad K) with
  | some ⟨_, _, .func fd, _⟩ => PySem.W.codeIn K fd.code d.qual && isNoneV fd.defaults
  | _ => false)
theorem Dx.funD {K : PySem.W.Frag} {d : Dx} (e : fnO K (d.at_.ad K) = d.val) (c : d.ok K = true) : ∃ fd, FunD K d.name d.qual d.params d.body d.scope [] [] (d.at_.ad K) fd := by
  obtain ⟨kp, c2⟩ := Bool.and_eq_true_iff.mp c
  unfold fnO at e
  cases q : K.lookup (d.at_.ad K) with
  | none => rw [q] at c2; cases c2
  | some o =>
    obtain ⟨oc, od, dt, osl⟩ := o
    rw [q] at c2 e
    cases dt with
    | func fd =>
      obtain ⟨n1, n2, n3, n4, n5, n6, n7, n8, n9, n10, n11, n12, n13, n14, n15⟩ := fd
      have e2 : (some (n1, n2, n3, n4, n5, n6, n7, n15) : FnO) = some (d.name, d.qual, d.params, .stmts d.body, d.scope, mainGlobals, [], builtinsNs) := e
      simp only [Option.some.injEq, Prod.mk.injEq] at e2
      obtain ⟨h1, h2, h3, h4, h5, h6, h7, h8⟩ := e2
      subst h1 h2 h3 h4 h5 h6 h7 h8
      obtain ⟨k1, k2⟩ := Bool.and_eq_true_iff.mp (show (PySem.W.codeIn K n13 d.qual && isNoneV n8) = true from c2)
      have k3 : n8 = .none := by cases n8 <;> first | rfl | cases k2
      subst k3
      exact ⟨_, ⟨oc, od, .none, n9, n10, n11, n12, n13, n14, osl, rfl, q, k1, .inl ⟨rfl, rfl⟩, .inl rfl⟩, kp⟩
    | _ => cases c2
/-! ### the hook -/
abbrev AlX : Type := Bool × List FnO
def obsX (fa : List Fx) (fn : List Dx) (K : PySem.W.Frag) : AlX := ((fa.all fun f => f.ok K) && fn.all fun d => d.ok K, fn.map fun d => fnO K (d.at_.ad K))
def valX (fn : List Dx) : AlX := (true, fn.map Dx.val)
def SaysX (fa : List Fx) (fn : List Dx) (K : PySem.W.Frag) : Prop := obsX fa fn K = valX fn
def obsXG (n : Nat) (fa : List Fx) (fn : List Dx) (g : Addr → Option Obj) : AlX := obsX fa fn (He.frG g (He.asD g n))
def hookX (n : Nat) (fa : List Fx) (fn : List Dx) : PySem.W.Hook where
  α := AlX
  obs := fun s => obsXG n fa fn s.heap.get?
  val := fun _ => valX fn
  says := fun _ h => ∃ K : PySem.W.Frag, K.In h ∧ SaysX fa fn K
  of := fun _ _ e => ⟨_, He.frG_in, e⟩
  keeps := fun _ _ _ ⟨K, hK, c⟩ k => ⟨K, PySem.W.Frag.In.keeps hK k, c⟩
theorem obsXG_eq {n : Nat} {fa : List Fx} {fn : List Dx} {g : Addr → Option Obj} {s : Shared} (h : ∀ a, g a = s.heap.get? a) : obsXG n fa fn g = (hookX n fa fn).obs s := by
  have e : g = s.heap.get? := funext h
  rw [e] <;> rfl
section
variable {fa : List Fx} {fn : List Dx} {K : PySem.W.Frag} {h : Heap} {mg : Str → Option Value}
theorem SaysX.fact (c : SaysX fa fn K) (i : Nat) {f : Fx} (h : fa[i]? = some f := by rfl) : f.ok K = true := by
  have c1 := (Bool.and_eq_true_iff.mp (show ((fa.all fun f => f.ok K) && fn.all fun d => d.ok K) = true from congrArg (fun z : AlX => z.1) c)).1
  exact List.all_eq_true.mp c1 f (List.mem_of_getElem? h)
theorem SaysX.def_ (c : SaysX fa fn K) (i : Nat) {d : Dx} (h : fn[i]? = some d := by rfl) : ∃ fd, FunD K d.name d.qual d.params d.body d.scope [] [] (d.at_.ad K) fd := by
  have c2 := (Bool.and_eq_true_iff.mp (show ((fa.all fun f => f.ok K) && fn.all fun d => d.ok K) = true from congrArg (fun z : AlX => z.1) c)).2
  have e : fn.map (fun d => fnO K (d.at_.ad K)) = fn.map Dx.val := congrArg (fun z : AlX => z.2) c
  have e2 : (fn.map fun d => fnO K (d.at_.ad K))[i]? = (fn.map Dx.val)[i]? := by rw [e]
  rw [List.getElem?_map, List.getElem?_map, h] at e2
  exact Dx.funD (Option.some.inj e2) (List.all_eq_true.mp c2 d (List.mem_of_getElem? h))
theorem f_glo (X : K.In h) (G : h.Ns mainGlobals mg) {x : String} (c : (Fx.glo x).ok K = true) : mg (Str.ofString x) = some (.ref (cad K x)) := PySem.W.mg_of X G (of_decide_eq_true c)
theorem f_free (X : K.In h) (G : h.Ns mainGlobals mg) {x : String} (c : (Fx.free x).ok K = true) : mg (Str.ofString x) = none := PySem.W.mg_none_of X G (of_decide_eq_true c)
theorem f_int (X : K.In h) (G : h.Ns mainGlobals mg) {x : String} {i : Int} (c : (Fx.int x i).ok K = true) : ∃ t, mg (Str.ofString x) = some (.int i t) := by
  unfold Fx.ok at c
  dsimp only at c
  split at c
  · rename_i j t e
    have := of_decide_eq_true c
    subst this
    exact ⟨t, PySem.W.mg_of X G e⟩
  · cases c
theorem f_cls {C : String} (c : (Fx.cls C).ok K = true) : Cls K (cad K C) := by
  obtain ⟨c1, c⟩ := Bool.and_eq_true_iff.mp c
  obtain ⟨c2, c⟩ := Bool.and_eq_true_iff.mp c
  obtain ⟨c3, c4⟩ := Bool.and_eq_true_iff.mp c
  exact ⟨c1, c2, c3, of_decide_eq_true c4⟩
theorem f_fld {C f : String} (c : (Fx.cls C).ok K = true) (d : (Fx.noat C f).ok K = true) : FldOk K C (Str.ofString f) := ⟨f_cls c, show PySem.W.findIn K (.ref (cad K C)) (Str.ofString f) = some none from of_decide_eq_true d⟩
theorem f_own {P : Program} {w : World} {base : Heap} {C m : String} {k n : Nat} {e : DEn} (c : (Fx.cls C).ok K = true) (d : (Fx.own C m).ok K = true) (F : FdOk P w K mg base k (ma K (cad K C) (Str.ofString m)) n e) : OwnOk P w K mg base C (Str.ofString m) k n e := by
  obtain ⟨c1, c2⟩ := Bool.and_eq_true_iff.mp d
  obtain ⟨c2, c3⟩ := Bool.and_eq_true_iff.mp c2
  exact ⟨f_cls c, _, of_decide_eq_true c1, c2, F⟩
theorem f_meth {P : Program} {w : World} {base : Heap} {C m : String} {k n : Nat} {e : DEn} (c : (Fx.cls C).ok K = true) (d : (Fx.own C m).ok K = true) (F : FdOk P w K mg base k (ma K (cad K C) (Str.ofString m)) n e) : MethOk P w K mg base C (Str.ofString m) k n e := by
  obtain ⟨c1, c2⟩ := Bool.and_eq_true_iff.mp d
  obtain ⟨c2, c3⟩ := Bool.and_eq_true_iff.mp c2
  exact ⟨f_cls c, _, ⟨of_decide_eq_true c1, c2, c3⟩, F⟩
theorem f_prop {P : Program} {w : World} {base : Heap} {C f : String} {k : Nat} {e : DEn} (c : (Fx.cls C).ok K = true) (d : (Fx.prop C f).ok K = true) (F : FdOk P w K mg base k (gAd K C (Str.ofString f)) 1 e) : PropOk P w K mg base C (Str.ofString f) k e := by
  obtain ⟨c1, c2⟩ := Bool.and_eq_true_iff.mp d
  obtain ⟨c2, c3⟩ := Bool.and_eq_true_iff.mp c2
  obtain ⟨c3, c4⟩ := Bool.and_eq_true_iff.mp c3
  refine ⟨f_cls c, _, _, ⟨of_decide_eq_true c1, of_decide_eq_true c2, of_decide_eq_true c3, ?_⟩, F⟩
  unfold gAd
  split at c4
  · rename_i g rest e
    rw [e]
    exact ⟨rest, rfl⟩
  · cases c4
theorem f_mkr {C : String} (c : (Fx.mkr C).ok K = true) : Mk K (cad K C) (ma K (cad K C) "__init__") := by
  obtain ⟨c1, c⟩ := Bool.and_eq_true_iff.mp c
  obtain ⟨c2, c⟩ := Bool.and_eq_true_iff.mp c
  obtain ⟨c3, c4⟩ := Bool.and_eq_true_iff.mp c
  exact ⟨c1, of_decide_eq_true c2, c3, c4⟩
theorem f_exc {X : Cx} {C : String} {bm : List Value} {new B ini : String} (c : (Fx.exc C bm new).ok X.K = true) (F : ExcBaseFacts B new ini bm) : ExcOk X C := by
  obtain ⟨c1, c⟩ := Bool.and_eq_true_iff.mp c
  obtain ⟨c2, c⟩ := Bool.and_eq_true_iff.mp c
  obtain ⟨c3, c4⟩ := Bool.and_eq_true_iff.mp c
  exact ⟨⟨B, new, ini, bm, F, c1⟩, c2, raises_own (of_decide_eq_true c3) (of_decide_eq_true c4)⟩
theorem f_clsI {C : String} (c : (Fx.cls C).ok K = true) (d : (Fx.clsI C).ok K = true) : ClsI K (cad K C) := by
  obtain ⟨c1, d⟩ := Bool.and_eq_true_iff.mp d
  obtain ⟨c2, d⟩ := Bool.and_eq_true_iff.mp d
  obtain ⟨c3, c4⟩ := Bool.and_eq_true_iff.mp d
  exact ⟨f_cls c, of_decide_eq_true c1, of_decide_eq_true c2, of_decide_eq_true c3, of_decide_eq_true c4⟩
theorem f_excC {C : String} (d : (Fx.excC C).ok K = true) : ExcC K (cad K C) := by
  obtain ⟨c1, d⟩ := Bool.and_eq_true_iff.mp d
  obtain ⟨c2, d⟩ := Bool.and_eq_true_iff.mp d
  obtain ⟨c3, d⟩ := Bool.and_eq_true_iff.mp d
  obtain ⟨c4, d⟩ := Bool.and_eq_true_iff.mp d
  obtain ⟨c5, d⟩ := Bool.and_eq_true_iff.mp d
  obtain ⟨c6, d⟩ := Bool.and_eq_true_iff.mp d
  obtain ⟨c7, c8⟩ := Bool.and_eq_true_iff.mp d
  exact ⟨of_decide_eq_true c1, of_decide_eq_true c2, of_decide_eq_true c3, c4, of_decide_eq_true c5, of_decide_eq_true c6, of_decide_eq_true c7, of_decide_eq_true c8⟩
theorem f_kit {t c : Tn} {b : Bool} (d : (Fx.kit t c b).ok K = true) : PySem.W.kitOne K (t.code K) (c.code K) = some b := of_decide_eq_true d
theorem f_exm {x c : String} {b : Bool} (d : (Fx.exm x c b).ok K = true) : PySem.W.exmOne K (.ref (cad K x)) (.ref (cad K c)) = some b := of_decide_eq_true d
theorem f_neo {C : String} (d : (Fx.neo C).ok K = true) : PySem.W.findIn K (.ref (cad K C)) "__ne__" = some (some (.builtin "object.__ne__")) ∧ PySem.W.mroIn K (cad K C) (.type "object") = some true := by
  obtain ⟨c1, c2⟩ := Bool.and_eq_true_iff.mp d
  exact ⟨of_decide_eq_true c1, of_decide_eq_true c2⟩
theorem f_noR {C m : String} (d : (Fx.noR C m).ok K = true) : PySem.W.findIn K (.ref (cad K C)) (Str.ofString m) = some none ∧ PySem.W.subIn K (.type "int") (.ref (cad K C)) = some false := by
  obtain ⟨c1, c2⟩ := Bool.and_eq_true_iff.mp d
  exact ⟨of_decide_eq_true c1, of_decide_eq_true c2⟩
end

/-! ### list(range(a)) -/
section
variable {X : Cx} {W : WX}
def gRg : List D → VRes
  | [.int n] => if -(2 ^ 62) ≤ n ∧ n ≤ 16777216 then .ok (.own (.lst (rangeD 0 n.toNat))) else .bad
  | _ => .bad
theorem rgV_rep {K : PySem.W.Frag} {A : Hp} {n : Int} : RepL K A (rgV 0 n) (rangeD 0 n.toNat) := by
  have h : ∀ (l : List Nat), RepL K A (l.map fun (i : Nat) => V.int (0 + (i : Int))) (l.map fun (i : Nat) => D.int (0 + (i : Int))) := fun l => by
    induction l with
    | nil => exact .nil
    | cons a l ih => exact .cons (.int _) ih
  have e : rgV 0 n = (List.range n.toNat).map fun (i : Nat) => V.int (0 + (i : Int)) := by
    unfold rgV
    rw [Int.sub_zero]
  rw [e]
  exact h _
theorem de_listRg {e : Expr} {d : DEn} {p pos rp rpos : Pos} (hc : X.calm = true) (hg : Gl X "list") (hm : X.mg "list" = none) (hg2 : Gl X "range") (hm2 : X.mg "range" = none) (he : DE X W e d) (na : starEach [e] X.env = (false, eval e X.env) :: starEach [] X.env := by rfl)
    (nb : starEach [.Call (.Name "range" rp) [e] [] rpos] X.env = (false, eval (.Call (.Name "range" rp) [e] [] rpos) X.env) :: starEach [] X.env := by rfl) :
    DE X W (.Call (.Name "list" p) [.Call (.Name "range" rp) [e] [] rpos] [] pos) (dUn (fun x => gRg [x]) d) :=
  PE.weak (pe_listRg hc hg hm (prg_1 hg2 hm2 he na) nb) fun σ H Q ⟨Fo, A, ρ, S, q⟩ => ⟨Fo, A, ρ, S, post_bind q fun x dx A1 H1 ρ1 e1 S1 r1 p1 => by
    cases r1 with
    | int n =>
      unfold gRg at p1
      dsimp only at p1
      obtain ⟨hn, p2⟩ := ifB (P := fun z : VRes => Post X.K W Fo A1 σ (z.at ρ1) Q) p1 (fun z => z)
      exact ⟨n, rfl, ⟨by omega, by omega, by omega, by omega, by omega⟩, fun q hq => Post.newL p2 S1 hq rgV_rep⟩
    | _ => exact p1.elim⟩
end
end DL

set_option maxRecDepth 100000
set_option maxHeartbeats 2000000
/-! DL12: short words for the generated texts. -/
namespace DL
open PySem PySem.Spec L2
open Evl (Ex)

/-! ### operators' names -/
def gSub : D → D → VRes := gI fun i j => .int (i - j)
def gFdiv : D → D → VRes := gIc divOk fun i j => .int (i / j)
def gMod : D → D → VRes := gIc modOk fun i j => .int (i % j)
def gPow : D → D → VRes := gIc powOk fun i j => .int (i ^ j.toNat)
def gLt : D → D → VRes := gI fun i j => .bl (decide (i < j))
def gLe : D → D → VRes := gI fun i j => .bl (decide (i ≤ j))
def gGt : D → D → VRes := gI fun i j => .bl (decide (j < i))
def gGe : D → D → VRes := gI fun i j => .bl (decide (j ≤ i))
def gNeg : D → VRes
  | .int i => .ok (.val (.int (-i)))
  | _ => .bad
def sRaise (C : String) : DSt := fun ρ => .exc ⟨C, [], []⟩ ρ
def leB (i j : Int) : Bool := decide (i ≤ j)
def ltB (i j : Int) : Bool := decide (i < j)
section
variable {X : Cx} {W : WX}
theorem u_neg : UnD X W (unaryOp .USub) gNeg := UnD.of un_neg fun σ H Fo A ρ x dx Q S r p => by
  cases r with
  | int i => exact ⟨i, rfl, Post.now p S (.int _)⟩
  | _ => exact p.elim
end
/-! ### comparisons as tests -/
section
variable {X : Cx} {W : WX} {a b c : Expr} {da db dc : DEn} {pos : Pos}
theorem dt_cmp {op : CmpOp} {g : D → D → VRes} (ho : OpD X W (compareOp op) g) (ha : DE X W a da) (hb : DE X W b db) (hm : behindInMarks op b = false) : DT X W (.Compare a [op] [b] pos) (dBin g da db) := by
  refine ⟨fun pins s σ H Q I h => ?_⟩
  have h' := rd_bin (R2' := fun σ x y H Q => ∃ Fo A ρ dx dy, Sat X.K Fo A H σ ρ ∧ Rep X.K A x dx ∧ Rep X.K A y dy ∧ Post X.K W Fo A σ ((g dx dy).at ρ) Q) h fun H Fo A ρ x y dx dy S r1 r2 p => ⟨Fo, A, ρ, dx, dy, S, r1, r2, p⟩
  refine wpAny_isTrue_Compare1 (thn (ha.run pins s σ H _ I h') fun v s1 ⟨x, H1, I1, r1, q1⟩ => thn (hb.run pins s1 σ H1 _ I1 q1) fun u s2 ⟨y, H2, I2, r2, Fo, A, ρ, dx, dy, S, rx, ry, p⟩ =>
    thn (ho pins s2 σ H2 Fo A ρ x y v u dx dy _ I2 r1 r2 S rx ry p) fun c s3 ⟨z, H3, I3, r3, k, e, q3⟩ => ?_) hm
  subst e
  cases r3
  exact wpAny_truthy_bool ⟨H3, I3, q3⟩
theorem dt_chain {op op' : CmpOp} {p q : Int → Int → Bool} (ho : OpR X (compareOp op) (rI0 fun i j => .bl (p i j))) (ho' : OpR X (compareOp op') (rI0 fun i j => .bl (q i j))) (ha : DE X W a da) (hb : DE X W b db) (hc : DE X W c dc)
    (hm : lastMarks [op, op'] [b, c] = false := by with_unfolding_all rfl) : DT X W (.Compare a [op, op'] [b, c] pos) (dChain p q da db dc) := PT.weak (pt_chain ho ho' ha hb hc hm) fun σ H Q ⟨Fo, A, ρ, S, pp⟩ =>
  ⟨Fo, A, ρ, S, post_bind pp fun x dx A1 H1 ρ1 e1 S1 r1 p1 => ⟨Fo, A1, ρ1, S1, post_bind p1 fun y dy A2 H2 ρ2 e2 S2 r2 p2 => by
    cases r1 <;> cases r2 <;> first
      | exact p2.elim
      | (rename_i i j
         refine ⟨i, j, rfl, rfl, p i j, rfl, ?_⟩
         replace p2 : Post X.K W Fo A2 σ (if p i j then ((dc ρ2).bind fun z ρ3 => match z with
           | .int k => .ok (.val (.bl (q j k))) ρ3
           | _ => .bad) else .ok (.val (.bl false)) ρ2) (fun x H1 => ∃ c, x = .bl c ∧ Q c H1) := p2
         cases hp : p i j with
         | true =>
           rw [hp] at p2
           refine iteT ⟨Fo, A2, ρ2, S2, post_bind p2 fun z dz A3 H3 ρ3 e3 S3 r3 p3 => ?_⟩
           cases r3 <;> first
             | exact p3.elim
             | exact ⟨j, _, rfl, rfl, Post.now p3 S3 (.bl _)⟩
         | false =>
           rw [hp] at p2
           exact iteF (Post.now p2 S2 (.bl _)))⟩⟩
end
/-! ### the facts of a law -/
structure TT (fa : List Fx) (fn : List Dx) (K : PySem.W.Frag) (mg : Str → Option Value) : Prop where
  says : SaysX fa fn K
  h : ∃ h : Heap, K.In h ∧ h.Ns mainGlobals mg
section
variable {fa : List Fx} {fn : List Dx} {K : PySem.W.Frag} {mg : Str → Option Value}
theorem TT.fact (T : TT fa fn K mg) (i : Nat) {f : Fx} (h : fa[i]? = some f := by rfl) : f.ok K = true := T.says.fact i h
theorem TT.glo (T : TT fa fn K mg) (i : Nat) {x : String} (h : fa[i]? = some (.glo x) := by rfl) : mg (Str.ofString x) = some (.ref (cad K x)) := let ⟨_, X, G⟩ := T.h; f_glo X G (T.fact i h)
theorem TT.free (T : TT fa fn K mg) (i : Nat) {x : String} (h : fa[i]? = some (.free x) := by rfl) : mg (Str.ofString x) = none := let ⟨_, X, G⟩ := T.h; f_free X G (T.fact i h)
theorem TT.int (T : TT fa fn K mg) (i : Nat) {x : String} {n : Int} (h : fa[i]? = some (.int x n) := by rfl) : ∃ t, mg (Str.ofString x) = some (.int n t) := let ⟨_, X, G⟩ := T.h; f_int X G (T.fact i h)
theorem TT.str (T : TT fa fn K mg) (i : Nat) {x z : String} (h : fa[i]? = some (.str x z) := by rfl) : ∃ t, mg (Str.ofString x) = some (.str (Str.ofString z) t) := by
  obtain ⟨h0, X, G⟩ := T.h
  have c := T.fact i h
  unfold Fx.ok at c
  dsimp only at c
  split at c
  · rename_i y t e
    have := of_decide_eq_true c
    subst this
    exact ⟨t, PySem.W.mg_of X G e⟩
  · cases c
theorem TT.def_ (T : TT fa fn K mg) (i : Nat) {d : Dx} (h : fn[i]? = some d := by rfl) : ∃ fd, FunD K d.name d.qual d.params d.body d.scope [] [] (d.at_.ad K) fd := T.says.def_ i h
end
theorem f_first {K : PySem.W.Frag} {C : String} (c : (Fx.first C).ok K = true) : PySem.W.selfFirst K (cad K C) = true := c
theorem f_nfirst {K : PySem.W.Frag} {C : String} {t : Tn} (c : (Fx.nfirst C t).ok K = true) : PySem.W.notFirst K (cad K C) (t.code K) = true := c
theorem int_mulA (K : PySem.W.Frag) : PySem.W.findIn K (.type "int") (PySem.dunder (Operator.info .Mult).2) = some (some (.builtin "int.__mul__")) := by kernel_rfl
theorem int_mulB (K : PySem.W.Frag) : PySem.W.findIn K (.type "int") (PySem.dunderR (Operator.info .Mult).2) = some (some (.builtin "int.__rmul__")) := by kernel_rfl
/-! ### calls of builtins -/
section
variable {X : Cx} {W : WX} {p pos : Pos} {e : Expr} {es : List Expr} {args : List Arg}
theorem de_len (hg : Gl X "len") (hm : X.mg "len" = none) (ha : DA X W (e :: es) args) (he : starEach (e :: es) X.env = (false, eval e X.env) :: starEach es X.env := by rfl) (hpl : (backTo pos (starEach es X.env)).any (·.1) = false := by rfl) : DE X W (.Call (.Name "len" p) (e :: es) [] pos) (dAll gLen args) :=
  de_callB call_len hg hm (by decide +kernel) ha (fun σ vs ds Fo A H ρ Q S ra q => k_len σ vs ds Fo A H ρ Q S ra q) (he := he) (hpl := hpl)
theorem de_max2 (hc : X.calm = true) (hg : Gl X "max") (hm : X.mg "max" = none) (ha : DA X W (e :: es) args) (he : starEach (e :: es) X.env = (false, eval e X.env) :: starEach es X.env := by rfl) (hpl : (backTo pos (starEach es X.env)).any (·.1) = false := by rfl) : DE X W (.Call (.Name "max" p) (e :: es) [] pos) (dAll gMax2 args) :=
  de_callB (call_max2 hc) hg hm (by decide +kernel) ha (fun σ vs ds Fo A H ρ Q S ra q => k_max2 σ vs ds Fo A H ρ Q S ra q) (he := he) (hpl := hpl)
theorem de_min2 (hc : X.calm = true) (hg : Gl X "min") (hm : X.mg "min" = none) (ha : DA X W (e :: es) args) (he : starEach (e :: es) X.env = (false, eval e X.env) :: starEach es X.env := by rfl) (hpl : (backTo pos (starEach es X.env)).any (·.1) = false := by rfl) : DE X W (.Call (.Name "min" p) (e :: es) [] pos) (dAll gMin2 args) :=
  de_callB (call_min2 hc) hg hm (by decide +kernel) ha (fun σ vs ds Fo A H ρ Q S ra q => k_min2 σ vs ds Fo A H ρ Q S ra q) (he := he) (hpl := hpl)
theorem de_int1 (hg : Gl X "int") (hm : X.mg "int" = none) (ha : DA X W (e :: es) args) (he : starEach (e :: es) X.env = (false, eval e X.env) :: starEach es X.env := by rfl) (hpl : (backTo pos (starEach es X.env)).any (·.1) = false := by rfl) : DE X W (.Call (.Name "int" p) (e :: es) [] pos) (dAll gInt args) :=
  de_callTy (call_int1.or call_int_str) hg hm (by decide +kernel) ha (fun σ vs ds Fo A H ρ Q S ra q => k_int σ vs ds Fo A H ρ Q S ra q) (he := he) (hpl := hpl)
theorem de_list1 (hg : Gl X "list") (hm : X.mg "list" = none) (ha : DA X W (e :: es) args) (he : starEach (e :: es) X.env = (false, eval e X.env) :: starEach es X.env := by rfl) (hpl : (backTo pos (starEach es X.env)).any (·.1) = false := by rfl) : DE X W (.Call (.Name "list" p) (e :: es) [] pos) (dAll gList args) :=
  de_callTy call_list_of hg hm (by decide +kernel) ha (fun σ vs ds Fo A H ρ Q S ra q => k_list σ vs ds Fo A H ρ Q S ra q) (he := he) (hpl := hpl)
theorem de_all (hc : X.calm = true) (hg : Gl X "all") (hm : X.mg "all" = none) (ha : DA X W (e :: es) args) (he : starEach (e :: es) X.env = (false, eval e X.env) :: starEach es X.env := by rfl) (hpl : (backTo pos (starEach es X.env)).any (·.1) = false := by rfl) : DE X W (.Call (.Name "all" p) (e :: es) [] pos) (dAll gAll args) :=
  de_callB (cr_all hc) hg hm (by decide +kernel) ha (fun σ vs ds Fo A H ρ Q S ra q => k_all σ vs ds Fo A H ρ Q S ra q) (he := he) (hpl := hpl)
theorem de_any (hc : X.calm = true) (hg : Gl X "any") (hm : X.mg "any" = none) (ha : DA X W (e :: es) args) (he : starEach (e :: es) X.env = (false, eval e X.env) :: starEach es X.env := by rfl) (hpl : (backTo pos (starEach es X.env)).any (·.1) = false := by rfl) : DE X W (.Call (.Name "any" p) (e :: es) [] pos) (dAll gAny args) :=
  de_callB (cr_any hc) hg hm (by decide +kernel) ha (fun σ vs ds Fo A H ρ Q S ra q => k_any σ vs ds Fo A H ρ Q S ra q) (he := he) (hpl := hpl)
theorem de_sum (hc : X.calm = true) (hg : Gl X "sum") (hm : X.mg "sum" = none) (ha : DA X W (e :: es) args) (he : starEach (e :: es) X.env = (false, eval e X.env) :: starEach es X.env := by rfl) (hpl : (backTo pos (starEach es X.env)).any (·.1) = false := by rfl) : DE X W (.Call (.Name "sum" p) (e :: es) [] pos) (dAll gSum args) :=
  de_callB (cr_sum hc) hg hm (by decide +kernel) ha (fun σ vs ds Fo A H ρ Q S ra q => k_sum σ vs ds Fo A H ρ Q S ra q) (he := he) (hpl := hpl)
theorem de_lenO {C : String} {k : Nat} {c : DEn} (O : OwnOk X.prog X.w X.K X.mg X.base C "__len__" k 1 c) (hr : Room (k + 1) X.A) (tk : Takes X W) (hg : Gl X "len") (hm : X.mg "len" = none) (ha : DA X W (e :: es) args)
    (he : starEach (e :: es) X.env = (false, eval e X.env) :: starEach es X.env := by rfl) (hpl : (backTo pos (starEach es X.env)).any (·.1) = false := by rfl) : DE X W (.Call (.Name "len" p) (e :: es) [] pos) (dAll (gOwnLen C c) args) :=
  de_callBD (own_len O hr tk) hg hm (by decide +kernel) ha (he := he) (hpl := hpl)
/-! ### isinstance -/
variable {tab : List ((Tn × Tn) × Bool)} {d : DEn} {px : Pos} {x : Str}
theorem de_isiC {C : String} (T : KitOk X.K tab) (hgx : Gl X x) (hmx : X.mg x = some (.ref (cad X.K C))) (hg : Gl X "isinstance") (hm : X.mg "isinstance" = none) (he : DE X W e d) (hdb : (x == ("__debug__" : Str)) = false := by decide)
    (h1 : starEach [e, .Name x px] X.env = (false, eval e X.env) :: starEach [.Name x px] X.env := by rfl) (h2 : starEach [.Name x px] X.env = (false, eval (.Name x px) X.env) :: starEach [] X.env := by rfl) (hpl : (backTo pos (starEach [.Name x px] X.env)).any (·.1) = false := by rfl) :
    DE X W (.Call (.Name "isinstance" p) [e, .Name x px] [] pos) (dUn (gIsi tab (.cls C)) d) := de_isi T (pe_glob hgx hmx (v := .ref (cad X.K C)) rfl hdb) (.own _) hg hm he h1 h2 hpl
theorem de_isiT {n : String} (T : KitOk X.K tab) (hgx : Gl X x) (hmx : X.mg x = none) (hv : bootBuiltins x = some (.type n)) (hg : Gl X "isinstance") (hm : X.mg "isinstance" = none) (he : DE X W e d) (hn : x ≠ "__name__" := by decide) (hdb : (x == ("__debug__" : Str)) = false := by decide)
    (h1 : starEach [e, .Name x px] X.env = (false, eval e X.env) :: starEach [.Name x px] X.env := by rfl) (h2 : starEach [.Name x px] X.env = (false, eval (.Name x px) X.env) :: starEach [] X.env := by rfl) (hpl : (backTo pos (starEach [.Name x px] X.env)).any (·.1) = false := by rfl) :
    DE X W (.Call (.Name "isinstance" p) [e, .Name x px] [] pos) (dUn (gIsi tab (.ty n)) d) := de_isi T (pe_bltn hgx hmx hv (v := .ty n) rfl hn hdb) (.ty n) hg hm he h1 h2 hpl
end
/-- a def's statement of the top, of a class -/
def inCls (s : Stmt) (j : Nat) : Stmt := match s with
  | .ClassDef _ _ _ b _ _ _ _ _ _ _ => b.getD j (.Pass ⟨0, 0, 0, 0⟩)
  | _ => .Pass ⟨0, 0, 0, 0⟩
end DL

set_option maxRecDepth 100000
set_option maxHeartbeats 2000000
/-! DL13: a law's end. -/
namespace DL
open PySem PySem.Spec L2
open Evl (Ex)
/-- a law's def: its own row, its promise over every base -/
def LawOk (P : Program) (w : World) (K : PySem.W.Frag) (mg : Str → Option Value) (k : Nat) (f : Addr) (x : Str) (c : DEn) : Prop :=
  ∃ fd : FuncData, (∀ (s : Shared) (u : Value), BindsTo s fd ⟨[u], []⟩ [(x, u)]) ∧ ∀ base : Heap, FnOk P w K mg base (L2.CX P w) k f fd [x] (spD K 1 c)
theorem law_of {P : Program} {w : World} {K : PySem.W.Frag} {mg : Str → Option Value} {x y qual : Str} {params : Arguments} {body : List Stmt} {scope : Scope} {f : Addr} {fd : FuncData} {N : List Str} {k : Nat} {Pw : List Nat} {s : DSt} (F : FunD K x qual params body scope [] [] f fd) (S : FnScope N [y] scope)
    (hb : ∀ (kV doc pm : Value) (an : Option Addr) (cdv ct : Value) (us : List Value), us.length = [y].length → bindArgs (PySem.W.fnOf x qual params body scope .none kV doc pm an cdv ct) ⟨us, []⟩ = pure ([y].zip us))
    (hbody : ∀ (base : Heap) (cdv : Value) (A : Around) (outer : List Env) (s0 : Shared) (H : Hp) (E : XK), Room k (A.deeper (PyProof.Rows.envOfC qual scope s0.heap.objs.size f cdv)) → DSs (cxOf (L2.CX P w) P w K mg base N qual scope f cdv A outer s0 H E) (fun cls d _ H => E cls d H) Pw body s) :
    LawOk P w K mg (k + 1) f y (callC N.length Pw s) :=
  ⟨fd, fun s v => FunD.bindsA (ps := [y]) F hb s [v] rfl, fun base => fnok_of F S (hbody base)⟩
/-- a law's denotation is true of every script -/
def Plain (n : Nat) (c : DEn) : Prop := ∀ ns : List Int, ns.length ≤ n → (∀ z ∈ ns, Builtin.Int.intBits z ≤ 1048576) → ∃ ρ, c [some (.val (.fix (ns.map D.int)))] = .ok (.val (.bl true)) ρ
theorem sp_law {K : PySem.W.Frag} {n : Nat} {c : DEn} (p : Plain n c) {H : Hp} {a : Addr} {ns : List Int} (hl : ns.length ≤ n) (hb : ∀ z ∈ ns, Builtin.Int.intBits z ≤ 1048576) (hS : SqL K H a (ns.map V.int)) : spD K 1 c [.ref a] H (fun v _ => v = .bl true) fun _ _ _ => False := by
  obtain ⟨ρ, e⟩ := p ns hl hb
  refine ⟨rfl, fun _ => none, H, [some (.val (.fix (ns.map D.int)))], ⟨Evl.Ex.refl H, fun b o h => (by cases h), rfl, fun i d h => ?_, fun i m h => ?_, fun i j m m' a h _ _ _ => ?_⟩, ?_⟩
  · cases i with
    | zero => simp at h; subst h; exact ⟨_, rfl, .fix hS (RepL.ints ns)⟩
    | succ i => simp at h
  · cases i with
    | zero => simp at h
    | succ i => simp at h
  · cases i with
    | zero => simp at h
    | succ i => simp at h
  · rw [e]
    intro v A' H' _ _ rv
    cases rv with
    | val rv => cases rv; rfl
theorem walk_DL {l : PySem.W.OpenLaw} {n k : Nat} {q : Program} {loose : List Str} {XP : (Str → Option Value) → Heap → Prop} {YP : World → Heap → Prop} {d : PySem.DefRec} {x : Str} {c : DEn}
    (hn : l.most = some n) (hn2 : n ≤ sizeLine) (hdf : d.params.defaults = []) (hr : Room k callerA)
    (F : ∀ (w : World) (mg : Str → Option Value) (fa : Addr) (h : Heap), YP w h → h.Ns mainGlobals mg → mg d.name = some (.ref fa) → ∃ K : PySem.W.Frag, K.In h ∧ LawOk l.prog w K mg k fa x c) (p : Plain n c) :
    PySem.W.WalkO q loose XP YP l.row.toRowW d [] (fun f vs => PySem.call f vs) := by
  refine Att.attach_callB hn hdf fun w s₀ s₁ mg mb fa o pm cd doc a vs ns G Y ho hd hcd hmg hobj hints hlen hbits hg => ?_
  obtain ⟨K, KX, fd, hb, hF⟩ := F w mg fa _ Y G.T.g hmg
  exact law_call KX G.T.g G.T.b G.T.builtins G.T.nolimit hg hobj hints (Nat.le_trans hlen hn2) hr (fun base _ _ => hF base) hb (fun H hO hS => sp_law p hlen hbits hS) fun H e s' ⟨_, _, _, _, _, _, _, _, _, _, _, _, h⟩ => h
end DL

set_option maxRecDepth 100000
set_option maxHeartbeats 2000000
/-! DL14: reckoning with denotations, in plain Lean. -/
namespace DL
open PySem PySem.Spec L2

/-! ### steps -/
section
variable {d : D} {m : M} {ρ : Slots} {x : Xc} {k : D → DEn} {ks : R → DSt} {r : R} {t : DSt}
@[simp] theorem bind_val : (ERes.ok (.val d) ρ).bind k = k d ρ := rfl
@[simp] theorem bind_own : (ERes.ok (.own m) ρ).bind k = k m.toD ρ := rfl
@[simp] theorem bind_exc : (ERes.exc x ρ).bind k = .exc x ρ := rfl
@[simp] theorem bind_bad : ERes.bad.bind k = .bad := rfl
@[simp] theorem at_ok : (VRes.ok r).at ρ = .ok r ρ := rfl
@[simp] theorem at_exc : (VRes.exc x).at ρ = .exc x ρ := rfl
@[simp] theorem at_bad : VRes.bad.at ρ = .bad := rfl
@[simp] theorem asVal_val : (ERes.ok (.val d) ρ).asVal = .ok (.val d) ρ := rfl
@[simp] theorem asVal_own : (ERes.ok (.own m) ρ).asVal = .ok (.val m.toD) ρ := rfl
@[simp] theorem asVal_exc : (ERes.exc x ρ).asVal = .exc x ρ := rfl
@[simp] theorem asVal_bad : ERes.bad.asVal = .bad := rfl
@[simp] theorem then_ok : (ERes.ok r ρ).thenS ks = ks r ρ := rfl
@[simp] theorem then_exc : (ERes.exc x ρ).thenS ks = .exc x ρ := rfl
@[simp] theorem then_bad : ERes.bad.thenS ks = .bad := rfl
@[simp] theorem sb_nx : (SRes.nx ρ).bind t = t ρ := rfl
@[simp] theorem sb_rt : (SRes.rt r ρ).bind t = .rt r ρ := rfl
@[simp] theorem sb_bk : (SRes.bk ρ).bind t = .bk ρ := rfl
@[simp] theorem sb_ct : (SRes.ct ρ).bind t = .ct ρ := rfl
@[simp] theorem sb_exc : (SRes.exc x ρ).bind t = .exc x ρ := rfl
@[simp] theorem sb_bad : SRes.bad.bind t = .bad := rfl
@[simp] theorem noX_ok : (ERes.ok r ρ).noX = .ok r ρ := rfl
@[simp] theorem toD_val : (R.val d).toD = d := rfl
@[simp] theorem toD_own : (R.own m).toD = m.toD := rfl
@[simp] theorem mD_lst {xs : List D} : (M.lst xs).toD = .lst xs := rfl
@[simp] theorem mD_ins {C : String} {ns : List Str} {xs : List D} : (M.ins C ns xs).toD = .ins C ns xs := rfl
@[simp] theorem mD_dic {ns : List Key} {xs : List D} : (M.dic ns xs).toD = .dic ns xs := rfl
@[simp] theorem mD_dit {ns : List (List Key)} {xs : List D} : (M.dit ns xs).toD = .dit ns xs := rfl
@[simp] theorem acons_ok {a : AV} {as : List AV} : (ARes.ok as ρ).cons a = .ok (a :: as) ρ := rfl
@[simp] theorem acons_exc {a : AV} : (ARes.exc x ρ).cons a = .exc x ρ := rfl
@[simp] theorem acons_bad {a : AV} : ARes.bad.cons a = .bad := rfl
@[simp] theorem dsOf_nil : dsOf [] = some [] := rfl
@[simp] theorem dsOf_d {as : List AV} : dsOf (.d d :: as) = (dsOf as).map (d :: ·) := rfl
@[simp] theorem not_bl {b : Bool} : (VRes.ok (.val (.bl b))).not = .ok (.val (.bl !b)) := rfl
@[simp] theorem not_exc : (VRes.exc x).not = .exc x := rfl
end
/-! ### expressions -/
section
variable {ρ ρ' ρ'' : Slots} {x : Xc} {r : R} {d da db dc : DEn} {args : List Arg} {c : DEn}
@[simp] theorem dC_ok {v : D} : dC v ρ = .ok (.val v) ρ := rfl
theorem dVar_ok {i : Nat} {v : D} (h : ρ[i]? = some (some (.val v))) : dVar i ρ = .ok (.val v) ρ := by unfold dVar; rw [h]
@[simp] theorem ra_nil : runArgs [] ρ = .ok [] ρ := rfl
theorem ra_e : runArgs (.e d :: args) ρ = match d ρ with
    | .ok v ρ1 => (runArgs args ρ1).cons (.d v.toD)
    | .exc x ρ1 => .exc x ρ1
    | .bad => .bad := rfl
theorem ra_ok (h : d ρ = .ok r ρ') : runArgs (.e d :: args) ρ = (runArgs args ρ').cons (.d r.toD) := by rw [ra_e, h]
@[simp] theorem callAt0 : callAt c [] ρ = (callV c []).at ρ := callAt_d c [] ρ
@[simp] theorem callAt1 {a : D} : callAt c [.d a] ρ = (callV c [a]).at ρ := callAt_d c [a] ρ
@[simp] theorem callAt2 {a b : D} : callAt c [.d a, .d b] ρ = (callV c [a, b]).at ρ := callAt_d c [a, b] ρ
@[simp] theorem callAt3 {a b e : D} : callAt c [.d a, .d b, .d e] ρ = (callV c [a, b, e]).at ρ := callAt_d c [a, b, e] ρ
@[simp] theorem callAt4 {a b e f : D} : callAt c [.d a, .d b, .d e, .d f] ρ = (callV c [a, b, e, f]).at ρ := callAt_d c [a, b, e, f] ρ
@[simp] theorem callAt5 {a b e f g : D} : callAt c [.d a, .d b, .d e, .d f, .d g] ρ = (callV c [a, b, e, f, g]).at ρ := callAt_d c [a, b, e, f, g] ρ
@[simp] theorem callAt6 {a b e f g h : D} : callAt c [.d a, .d b, .d e, .d f, .d g, .d h] ρ = (callV c [a, b, e, f, g, h]).at ρ := callAt_d c [a, b, e, f, g, h] ρ
end
/-- a new instance by values -/
def newV (C : String) (c : DEn) (ds : List D) : VRes := match c (some (.own (.ins C [] [])) :: ds.map fun d => some (R.val d)) with
  | .ok (.val .non) (some (.own m) :: _) => .ok (.own m)
  | .exc x _ => .exc x
  | _ => .bad
theorem put_far {m : M} (ds : List D) (r : Option R) (rs ρ : Slots) : put (.l ρ.length :: ds.map AV.d) (r :: rs) (ρ ++ [some (R.own m)]) = ρ ++ [r] := by
  show put (ds.map AV.d) rs ((ρ ++ [some (R.own m)]).set ρ.length r) = _
  rw [put_d]
  simp
theorem makeAt_d {C : String} {c : DEn} (ds : List D) (ρ : Slots) (h : newV C c ds ≠ .bad) : makeAt C c (ds.map AV.d) ρ = (newV C c ds).at ρ := by
  have e1 : (ds.map AV.d).map (argR (ρ ++ [some (.own (.ins C [] []))])) = ds.map fun d => some (R.val d) := by rw [List.map_map]; rfl
  have e2 : argR (ρ ++ [some (.own (.ins C [] []))]) (.l ρ.length) = some (.own (.ins C [] [])) := by simp [argR]
  have e3 : lends (.l ρ.length :: ds.map AV.d) = [ρ.length] := by show ρ.length :: lends (ds.map AV.d) = _; rw [lends_d]
  have e4 : callAt c (.l ρ.length :: ds.map AV.d) (ρ ++ [some (.own (.ins C [] []))]) = (match c (some (.own (.ins C [] [])) :: ds.map fun d => some (R.val d)) with
      | .ok r rs => .ok r (put (.l ρ.length :: ds.map AV.d) rs (ρ ++ [some (.own (.ins C [] []))]))
      | .exc x rs => .exc x (put (.l ρ.length :: ds.map AV.d) rs (ρ ++ [some (.own (.ins C [] []))]))
      | .bad => .bad) := by
    unfold callAt
    rw [e3, List.map_cons, e1, e2, if_pos ⟨by simp, by simp [argR]⟩]
    all_goals (cases c (some (.own (.ins C [] [])) :: ds.map fun d => some (R.val d)) <;> rfl)
  unfold makeAt
  rw [e4]
  unfold newV at h ⊢
  cases hc : c (some (.own (.ins C [] [])) :: ds.map fun d => some (R.val d)) with
  | bad => rw [hc] at h; exact absurd rfl h
  | exc x rs =>
    rw [hc] at h
    cases rs with
    | nil =>
      show ERes.exc x ((put (.l ρ.length :: ds.map AV.d) [] (ρ ++ [some (.own (.ins C [] []))])).take ρ.length) = ERes.exc x ρ
      have : put (.l ρ.length :: ds.map AV.d) [] (ρ ++ [some (.own (.ins C [] []))]) = ρ ++ [some (.own (.ins C [] []))] := rfl
      rw [this]; simp
    | cons r rs =>
      show ERes.exc x ((put (.l ρ.length :: ds.map AV.d) (r :: rs) (ρ ++ [some (.own (.ins C [] []))])).take ρ.length) = ERes.exc x ρ
      rw [put_far]; simp
  | ok v rs =>
    rw [hc] at h
    cases v with
    | own m => exact absurd rfl h
    | val d =>
      cases d with
      | non =>
        cases rs with
        | nil => exact absurd rfl h
        | cons r rs =>
          cases r with
          | none => exact absurd rfl h
          | some r =>
            cases r with
            | val d => exact absurd rfl h
            | own m =>
              dsimp only
              rw [put_far]
              simp
      | _ => exact absurd rfl h
section
variable {C : String} {c : DEn} {ρ : Slots} {r : R} {x : Xc}
theorem make1 {a : D} {v : VRes} (h : newV C c [a] = v) (hb : v ≠ .bad) : makeAt C c [.d a] ρ = v.at ρ := by subst h; exact makeAt_d [a] ρ hb
theorem make2 {a b : D} {v : VRes} (h : newV C c [a, b] = v) (hb : v ≠ .bad) : makeAt C c [.d a, .d b] ρ = v.at ρ := by subst h; exact makeAt_d [a, b] ρ hb
theorem make3 {a b e : D} {v : VRes} (h : newV C c [a, b, e] = v) (hb : v ≠ .bad) : makeAt C c [.d a, .d b, .d e] ρ = v.at ρ := by subst h; exact makeAt_d [a, b, e] ρ hb
end
/-! ### plain equality -/
mutual
def okd : Nat → D → Bool
  | _, .non => true
  | _, .bl _ => true
  | _, .int _ => true
  | _, .str s => PyData.canLay0 (.str s)
  | 0, _ => false
  | n + 1, .lst xs => okdL n xs
  | n + 1, .fix xs => okdL n xs
  | n + 1, .tup xs => okdL n xs
  | _, _ => false
def okdL : Nat → List D → Bool
  | _, [] => true
  | n, x :: xs => okd n x && okdL n xs
end
mutual
def bf : D → Bool
  | .non => true
  | .int _ => true
  | .str _ => true
  | .lst xs => bfL xs
  | .tup xs => bfL xs
  | _ => false
def bfL : List D → Bool
  | [] => true
  | x :: xs => bf x && bfL xs
end
mutual
theorem okd_py : ∀ (n : Nat) (d : D), okd n d = true → ∃ p, d.py = some p ∧ p.canLay0 = true ∧ p.depth ≤ n
  | n, .non, _ => ⟨_, rfl, rfl, Nat.zero_le _⟩
  | n, .bl _, _ => ⟨_, rfl, rfl, Nat.zero_le _⟩
  | n, .int _, _ => ⟨_, rfl, rfl, Nat.zero_le _⟩
  | n, .str s, h => ⟨_, rfl, by simpa [okd] using h, Nat.zero_le _⟩
  | 0, .lst xs, h => by simp [okd] at h
  | 0, .fix xs, h => by simp [okd] at h
  | 0, .tup xs, h => by simp [okd] at h
  | n + 1, .lst xs, h => by
    obtain ⟨ps, e1, e2, e3⟩ := okdL_py n xs (by simpa [okd] using h)
    exact ⟨.list ps, by simp [D.py, e1], by simpa [PyData.canLay0] using e2, by simp only [PyData.depth]; omega⟩
  | n + 1, .fix xs, h => by
    obtain ⟨ps, e1, e2, e3⟩ := okdL_py n xs (by simpa [okd] using h)
    exact ⟨.list ps, by simp [D.py, e1], by simpa [PyData.canLay0] using e2, by simp only [PyData.depth]; omega⟩
  | n + 1, .tup xs, h => by
    obtain ⟨ps, e1, e2, e3⟩ := okdL_py n xs (by simpa [okd] using h)
    exact ⟨.tuple ps, by simp [D.py, e1], by simpa [PyData.canLay0] using e2, by simp only [PyData.depth]; omega⟩
  | n, .ty _, h => by cases n <;> simp [okd] at h
  | n, .adr _, h => by cases n <;> simp [okd] at h
  | n, .ins _ _ _, h => by cases n <;> simp [okd] at h
  | n, .dic _ _, h => by cases n <;> simp [okd] at h
  | n, .dit _ _, h => by cases n <;> simp [okd] at h
  | n, .dif _ _, h => by cases n <;> simp [okd] at h
theorem okdL_py : ∀ (n : Nat) (ds : List D), okdL n ds = true → ∃ ps, pyL ds = some ps ∧ PyData.canLayAll0 ps = true ∧ PyData.depthAll ps ≤ n
  | n, [], _ => ⟨[], rfl, rfl, Nat.zero_le _⟩
  | n, d :: ds, h => by
    obtain ⟨h1, h2⟩ := Bool.and_eq_true_iff.mp (show (okd n d && okdL n ds) = true by simpa [okdL] using h)
    obtain ⟨p, e1, e2, e3⟩ := okd_py n d h1
    obtain ⟨ps, f1, f2, f3⟩ := okdL_py n ds h2
    exact ⟨p :: ps, by simp [pyL, e1, f1], by simp [PyData.canLayAll0, e2, f2], by simp only [PyData.depthAll]; omega⟩
end
mutual
theorem bf_eqv : ∀ (x y : D) (p q : PyData), bf x = true → bf y = true → x.py = some p → y.py = some q → (PyData.eqv p q = true ↔ x = y)
  | x, y, p, q, hx, hy, h1, h2 => by
    cases x with
    | non => cases h1; cases y <;> simp [bf] at hy <;> simp [D.py] at h2 <;> first | (subst h2; simp [PyData.eqv]) | (obtain ⟨qs, _, rfl⟩ := h2; simp [PyData.eqv])
    | int i => cases h1; cases y <;> simp [bf] at hy <;> simp [D.py] at h2 <;> first | (subst h2; simp [PyData.eqv]) | (obtain ⟨qs, _, rfl⟩ := h2; simp [PyData.eqv])
    | str i => cases h1; cases y <;> simp [bf] at hy <;> simp [D.py] at h2 <;> first | (subst h2; simp [PyData.eqv]) | (obtain ⟨qs, _, rfl⟩ := h2; simp [PyData.eqv])
    | lst xs =>
      simp [D.py] at h1
      obtain ⟨ps, e1, rfl⟩ := h1
      cases y <;> simp [bf] at hy <;> simp [D.py] at h2 <;> first
        | (subst h2; simp [PyData.eqv])
        | (obtain ⟨qs, e2, rfl⟩ := h2
           first
             | (simp [PyData.eqv]; done)
             | (rename_i ys
                have := bfL_eqv xs ys ps qs (by simpa [bf] using hx) hy e1 e2
                simp [PyData.eqv, this]))
    | tup xs =>
      simp [D.py] at h1
      obtain ⟨ps, e1, rfl⟩ := h1
      cases y <;> simp [bf] at hy <;> simp [D.py] at h2 <;> first
        | (subst h2; simp [PyData.eqv])
        | (obtain ⟨qs, e2, rfl⟩ := h2
           first
             | (simp [PyData.eqv]; done)
             | (rename_i ys
                have := bfL_eqv xs ys ps qs (by simpa [bf] using hx) hy e1 e2
                simp [PyData.eqv, this]))
    | _ => simp [bf] at hx
theorem bfL_eqv : ∀ (xs ys : List D) (ps qs : List PyData), bfL xs = true → bfL ys = true → pyL xs = some ps → pyL ys = some qs → (PyData.eqvAll ps qs = true ↔ xs = ys)
  | [], [], ps, qs, _, _, h1, h2 => by cases h1; cases h2; simp [PyData.eqvAll]
  | [], y :: ys, ps, qs, _, _, h1, h2 => by
    cases h1
    unfold pyL at h2
    split at h2 <;> cases h2
    simp [PyData.eqvAll]
  | x :: xs, [], ps, qs, _, _, h1, h2 => by
    cases h2
    unfold pyL at h1
    split at h1 <;> cases h1
    simp [PyData.eqvAll]
  | x :: xs, y :: ys, ps, qs, hx, hy, h1, h2 => by
    unfold pyL at h1 h2
    split at h1 <;> cases h1
    split at h2 <;> cases h2
    rename_i _ _ p ps e1 e2 _ _ q qs f1 f2
    simp only [bfL, Bool.and_eq_true] at hx hy
    simp [PyData.eqvAll, bf_eqv x y p q hx.1 hy.1 e1 f1, bfL_eqv xs ys ps qs hx.2 hy.2 e2 f2]
end
noncomputable instance : DecidableEq D := fun a b => Classical.propDecidable (a = b)
theorem eqP_self {d : D} (h : okd 64 d = true) : eqP d d = some true := by
  obtain ⟨p, e, c, dp⟩ := okd_py 64 d h
  have s : SeqAt.shaped p = true := by unfold SeqAt.shaped; simp [c, dp]
  unfold eqP
  rw [e]
  simp only [s, Bool.and_self, if_true]
  rw [PySem.SeqAt.eqv_refl p c]
theorem eqP_dec {x y : D} (h1 : okd 64 x = true) (h2 : okd 64 y = true) (b1 : bf x = true) (b2 : bf y = true) : eqP x y = some (decide (x = y)) := by
  obtain ⟨p, e, c, dp⟩ := okd_py 64 x h1
  obtain ⟨q, f, g, dq⟩ := okd_py 64 y h2
  have s : SeqAt.shaped p = true := by unfold SeqAt.shaped; simp [c, dp]
  have t : SeqAt.shaped q = true := by unfold SeqAt.shaped; simp [g, dq]
  unfold eqP
  rw [e, f]
  simp only [s, t, Bool.and_self, if_true]
  have := bf_eqv x y p q b1 b2 e f
  by_cases hxy : x = y
  · rw [this.mpr hxy]; simp [hxy]
  · have : PyData.eqv p q = false := by
      cases hv : PyData.eqv p q with
      | false => rfl
      | true => exact absurd (this.mp hv) hxy
    rw [this]; simp [hxy]
theorem gEq_self {d : D} (h : okd 64 d = true) : gEq d d = .ok (.val (.bl true)) := by
  cases d with
  | int i => simp [gEq]
  | bl i => simp [gEq]
  | str i => simp [gEq]
  | _ => simp [gEq, eqP_self h]
theorem gEq_dec {x y : D} (h1 : okd 64 x = true) (h2 : okd 64 y = true) (b1 : bf x = true) (b2 : bf y = true) : gEq x y = .ok (.val (.bl (decide (x = y)))) := by
  have e := eqP_dec h1 h2 b1 b2
  unfold gEq
  split
  · simp
  · simp
  · simp
  · rw [e]
@[simp] theorem gEq_int {i j : Int} : gEq (.int i) (.int j) = .ok (.val (.bl (decide (i = j)))) := rfl
@[simp] theorem gNe_int {i j : Int} : gNe (.int i) (.int j) = .ok (.val (.bl (!decide (i = j)))) := rfl
@[simp] theorem gEq_bl {i j : Bool} : gEq (.bl i) (.bl j) = .ok (.val (.bl (decide (i = j)))) := rfl
@[simp] theorem gNe_bl {i j : Bool} : gNe (.bl i) (.bl j) = .ok (.val (.bl (!decide (i = j)))) := rfl
theorem gNe_self {d : D} (h : okd 64 d = true) : gNe d d = .ok (.val (.bl false)) := by unfold gNe; rw [gEq_self h]; rfl
theorem gNe_dec {x y : D} (h1 : okd 64 x = true) (h2 : okd 64 y = true) (b1 : bf x = true) (b2 : bf y = true) : gNe x y = .ok (.val (.bl (!decide (x = y)))) := by unfold gNe; rw [gEq_dec h1 h2 b1 b2]; rfl
theorem okdL_of {n : Nat} {xs : List D} (h : ∀ x ∈ xs, okd n x = true) : okdL n xs = true := by
  induction xs with
  | nil => simp [okdL]
  | cons x xs ih => simp [okdL, h x List.mem_cons_self, ih fun y hy => h y (List.mem_cons_of_mem _ hy)]
theorem bfL_of {xs : List D} (h : ∀ x ∈ xs, bf x = true) : bfL xs = true := by
  induction xs with
  | nil => simp [bfL]
  | cons x xs ih => simp [bfL, h x List.mem_cons_self, ih fun y hy => h y (List.mem_cons_of_mem _ hy)]
theorem okd_ints {n : Nat} {ns : List Int} : okd (n + 1) (.lst (ns.map D.int)) = true := by
  simp only [okd]
  exact okdL_of fun x hx => by obtain ⟨i, _, rfl⟩ := List.mem_map.mp hx; cases n <;> simp [okd]
theorem bf_ints {ns : List Int} : bf (.lst (ns.map D.int)) = true := by
  simp only [bf]
  exact bfL_of fun x hx => by obtain ⟨i, _, rfl⟩ := List.mem_map.mp hx; simp [bf]
theorem ints_inj {xs ys : List Int} : D.lst (xs.map D.int) = D.lst (ys.map D.int) ↔ xs = ys := by
  constructor
  · intro h
    exact (List.map_inj_right fun a b => D.int.inj).mp (D.lst.inj h)
  · rintro rfl; rfl
/-! ### operators on data -/
theorem gAdd_lst {a b : List D} (h : a.length + b.length ≤ sizeLine) : gAdd (.lst a) (.lst b) = .ok (.own (.lst (a ++ b))) := by simp [gAdd, gOr, gI, gAddS, gCat, h]
@[simp] theorem gAdd_int {i j : Int} : gAdd (.int i) (.int j) = .ok (.val (.int (i + j))) := rfl
theorem gMul_int {i j : Int} (h : mulOk i j = true) : gMul (.int i) (.int j) = .ok (.val (.int (i * j))) := by simp [gMul, gOr, gIc, h]
theorem gMul_lst {a : List D} {k : Int} (h1 : -(2 ^ 63) ≤ k) (h2 : k < 2 ^ 63) (h3 : a.length * k.toNat ≤ sizeLine) : gMul (.lst a) (.int k) = .ok (.own (.lst (List.replicate k.toNat a).flatten)) := by
  unfold gMul gOr
  show (match VRes.bad with | .bad => gRep (.lst a) (.int k) | r => r) = _
  simp only [gRep]
  rw [if_pos ⟨h1, h2, h3⟩]
@[simp] theorem gSub_int {i j : Int} : gSub (.int i) (.int j) = .ok (.val (.int (i - j))) := rfl
theorem gMod_int {i j : Int} (h : 0 < j) : gMod (.int i) (.int j) = .ok (.val (.int (i % j))) := by simp [gMod, gIc, modOk, h]
theorem gFdiv_int {i j : Int} (h : 0 < j) (h2 : j.natAbs.log2 < 9000) : gFdiv (.int i) (.int j) = .ok (.val (.int (i / j))) := by simp [gFdiv, gIc, divOk, h, h2]
theorem gPow_int {i j : Int} (h : powOk i j = true) : gPow (.int i) (.int j) = .ok (.val (.int (i ^ j.toNat))) := by simp [gPow, gIc, h]
@[simp] theorem gLt_int {i j : Int} : gLt (.int i) (.int j) = .ok (.val (.bl (decide (i < j)))) := rfl
@[simp] theorem gLe_int {i j : Int} : gLe (.int i) (.int j) = .ok (.val (.bl (decide (i ≤ j)))) := rfl
@[simp] theorem gGt_int {i j : Int} : gGt (.int i) (.int j) = .ok (.val (.bl (decide (j < i)))) := rfl
@[simp] theorem gGe_int {i j : Int} : gGe (.int i) (.int j) = .ok (.val (.bl (decide (j ≤ i)))) := rfl
@[simp] theorem gNeg_int {i : Int} : gNeg (.int i) = .ok (.val (.int (-i))) := rfl
@[simp] theorem gLen_lst {xs : List D} : gLen [.lst xs] = .ok (.val (.int xs.length)) := rfl
@[simp] theorem gLen_fix {xs : List D} : gLen [.fix xs] = .ok (.val (.int xs.length)) := rfl
@[simp] theorem gLen_tup {xs : List D} : gLen [.tup xs] = .ok (.val (.int xs.length)) := rfl
@[simp] theorem gList_lst {xs : List D} : gList [.lst xs] = .ok (.own (.lst xs)) := rfl
@[simp] theorem gMax2_int {i j : Int} : gMax2 [.int i, .int j] = .ok (.val (.int (if j > i then j else i))) := rfl
@[simp] theorem gMin2_int {i j : Int} : gMin2 [.int i, .int j] = .ok (.val (.int (if j < i then j else i))) := rfl
@[simp] theorem gInt_int {i : Int} : gInt [.int i] = .ok (.val (.int i)) := rfl
@[simp] theorem gInt_bl {i : Bool} : gInt [.bl i] = .ok (.val (.int (if i then 1 else 0))) := rfl
@[simp] theorem gSl_lst {xs : List D} {lo hi : Option Int} : gSl (.lst xs) lo hi = .ok (.own (.lst (cutD xs lo hi))) := rfl
theorem gLst_ok {xs : List D} (h : xs.length ≤ sizeLine) : DL.gLst xs = .ok (.own (.lst xs)) := by simp [DL.gLst, h]
theorem gTup_ok {xs : List D} (h : xs.length ≤ sizeLine) : DL.gTup xs = .ok (.val (.tup xs)) := by simp [DL.gTup, h]
@[simp] theorem gLst_nil : DL.gLst [] = .ok (.own (.lst [])) := gLst_ok (by decide)
@[simp] theorem gLst_1 {a : D} : DL.gLst [a] = .ok (.own (.lst [a])) := gLst_ok (by simp [sizeLine])
@[simp] theorem gLst_2 {a b : D} : DL.gLst [a, b] = .ok (.own (.lst [a, b])) := gLst_ok (by simp [sizeLine])
@[simp] theorem gLst_3 {a b c : D} : DL.gLst [a, b, c] = .ok (.own (.lst [a, b, c])) := gLst_ok (by simp [sizeLine])
@[simp] theorem gLst_4 {a b c d : D} : DL.gLst [a, b, c, d] = .ok (.own (.lst [a, b, c, d])) := gLst_ok (by simp [sizeLine])
@[simp] theorem gTup_2 {a b : D} : DL.gTup [a, b] = .ok (.val (.tup [a, b])) := gTup_ok (by simp [sizeLine])
@[simp] theorem gTup_3 {a b c : D} : DL.gTup [a, b, c] = .ok (.val (.tup [a, b, c])) := gTup_ok (by simp [sizeLine])
theorem gRg_ok {n : Nat} (h : n ≤ 16777216) : gRg [.int n] = .ok (.own (.lst ((List.range n).map fun (i : Nat) => D.int i))) := by
  show (if -(2 ^ 62) ≤ (n : Int) ∧ (n : Int) ≤ 16777216 then VRes.ok (.own (.lst (rangeD 0 (n : Int).toNat))) else .bad) = _
  rw [if_pos ⟨by omega, by omega⟩]
  simp [rangeD]
@[simp] theorem tyI_int {i : Int} : tyI (.int i) = some (.ty "int") := rfl
@[simp] theorem tyI_bl {i : Bool} : tyI (.bl i) = some (.ty "bool") := rfl
@[simp] theorem tyI_str {i : Str} : tyI (.str i) = some (.ty "str") := rfl
@[simp] theorem tyI_non : tyI .non = some (.ty "NoneType") := rfl
@[simp] theorem tyI_lst {i : List D} : tyI (.lst i) = some (.ty "list") := rfl
@[simp] theorem tyI_fix {i : List D} : tyI (.fix i) = some (.ty "list") := rfl
@[simp] theorem tyI_tup {i : List D} : tyI (.tup i) = some (.ty "tuple") := rfl
@[simp] theorem tyI_dic {k : List Key} {i : List D} : tyI (.dic k i) = some (.ty "dict") := rfl
@[simp] theorem tyI_dit {k : List (List Key)} {i : List D} : tyI (.dit k i) = some (.ty "dict") := rfl
@[simp] theorem tyI_ins {C : String} {k : List Str} {i : List D} : tyI (.ins C k i) = some (.cls C) := rfl
@[simp] theorem tyD_int' {i : Int} : tyD (.int i) = some (.ty "int") := rfl
@[simp] theorem tyD_bl {i : Bool} : tyD (.bl i) = some (.ty "bool") := rfl
@[simp] theorem tyD_str {i : Str} : tyD (.str i) = some (.ty "str") := rfl
@[simp] theorem tyD_non : tyD .non = some (.ty "NoneType") := rfl
@[simp] theorem tyD_lst {i : List D} : tyD (.lst i) = some (.ty "list") := rfl
@[simp] theorem tyD_ins {C : String} {k : List Str} {i : List D} : tyD (.ins C k i) = some (.cls C) := rfl
theorem gAll_map {α : Type} {f : α → Bool} {xs : List α} : gAll [.lst (xs.map fun x => D.bl (f x))] = .ok (.val (.bl (xs.all f))) := by
  have h : ∀ xs : List α, blsOf (xs.map fun x => D.bl (f x)) = some (xs.map f) := fun xs => by
    induction xs with
    | nil => rfl
    | cons x xs ih => simp [blsOf, ih]
  simp [gAll, h, List.all_map, Function.comp_def]
def rng (L : Nat) : List Int := (List.range L).map fun (i : Nat) => (i : Int)
theorem rng_len (L : Nat) : (rng L).length = L := by simp [rng]
theorem gRg_rng {n : Nat} (h : n ≤ 16777216) : gRg [.int n] = .ok (.own (.lst ((rng n).map D.int))) := by
  rw [gRg_ok h]
  simp [rng]
/-! ### texts -/
theorem charNat_inj {c d : Char} (h : c.toNat = d.toNat) : c = d := by
  apply Char.ext
  exact UInt32.toNat_inj.mp h
@[simp] theorem ofString_inj {a b : String} : Str.ofString a = Str.ofString b ↔ a = b := by
  constructor
  · intro h
    rw [Str.ofString_eq_toList, Str.ofString_eq_toList] at h
    have h1 := congrArg (fun s : Str => s.cps.toList) h
    simp only [List.toArray] at h1
    have h2 : a.toList.map Char.toNat = b.toList.map Char.toNat := by simpa using h1
    exact String.toList_inj.mp ((List.map_inj_right fun x y => charNat_inj).mp h2)
  · rintro rfl; rfl
end DL

set_option maxRecDepth 100000
set_option maxHeartbeats 2000000
/-! DL15: what is not reached; a look at own things that stay own. -/
namespace DL
open PySem PySem.Spec L2
open Evl (Ex)
def sBad : DSt := fun _ => .bad
def dBad : DEn := fun _ => .bad
section
variable {X : Cx} {W : WX} {P : List Nat}
theorem ds_bad {st : Stmt} : DS X W P st sBad := ⟨fun pins s σ H D I ⟨_, _, _, _, p⟩ => p.elim⟩
theorem dss_bad {st : List Stmt} : DSs X W P st sBad := ⟨fun pins s σ H D I ⟨_, _, _, _, p⟩ => p.elim⟩
theorem de_bad {e : Expr} : DE X W e dBad := ⟨fun pins s σ H Q I ⟨_, _, _, _, p⟩ => p.elim⟩
end
/-- all own things seen as data -/
def peekS (ρ : Slots) : Slots := ρ.map fun
  | some (.own m) => some (.val m.toD)
  | x => x
def flat : D → Bool
  | .non => true
  | .bl _ => true
  | .int _ => true
  | .str _ => true
  | .ty _ => true
  | _ => false
def dPeek (d : DEn) : DEn := fun ρ => match d (peekS ρ) with
  | .ok (.val x) _ => if flat x then .ok (.val x) ρ else .bad
  | .exc x _ => if x.ns = [] then .exc x ρ else .bad
  | _ => .bad
theorem Rep.flat {K : PySem.W.Frag} {A A' : Hp} {v : V} {d : D} (h : Rep K A v d) (f : DL.flat d = true) : Rep K A' v d := by
  cases h <;> first
    | exact .non
    | exact .bl _
    | exact .int _
    | exact .str _
    | exact .ty _
    | cases f
open Classical in
/-- the own things put into the anchor -/
noncomputable def ownA (A H : Hp) (σ : L2.St) (ρ : Slots) : Hp := fun b => if ∃ (i : Nat) (m : M), ρ[i]? = some (some (R.own m)) ∧ σ[i]? = some (some (V.ref b)) then H b else A b
section
variable {K : PySem.W.Frag} {Fo A A' H H' : Hp} {σ : L2.St} {ρ ρ' : Slots}
theorem peek_get {i : Nat} {r : R} (h : (peekS ρ)[i]? = some (some r)) : (∃ d, r = .val d ∧ ρ[i]? = some (some (.val d))) ∨ ∃ m, r = .val m.toD ∧ ρ[i]? = some (some (.own m)) := by
  unfold peekS at h
  rw [List.getElem?_map] at h
  cases e : ρ[i]? with
  | none => rw [e] at h; cases h
  | some o =>
    rw [e] at h
    cases o with
    | none => cases h
    | some r' =>
      cases r' with
      | val d => cases h; exact .inl ⟨d, rfl, rfl⟩
      | own m => cases h; exact .inr ⟨m, rfl, rfl⟩
theorem ownA_ex (S : Sat K Fo A H σ ρ) : Ex A (ownA A H σ ρ) := fun b o h => by
  unfold ownA
  by_cases hb : ∃ (i : Nat) (m : M), ρ[i]? = some (some (R.own m)) ∧ σ[i]? = some (some (V.ref b))
  · obtain ⟨i, m, h1, h2⟩ := hb
    obtain ⟨a, u, e1, e2, _⟩ := S.own i m h1
    rw [h2] at e1; cases e1
    rw [e2] at h; cases h
  · rw [if_neg hb]; exact h
theorem ownA_at (S : Sat K Fo A H σ ρ) {i : Nat} {m : M} {a : Addr} (h1 : ρ[i]? = some (some (R.own m))) (h2 : σ[i]? = some (some (V.ref a))) : ownA A H σ ρ a = H a := by
  unfold ownA
  rw [if_pos ⟨i, m, h1, h2⟩]
theorem Sat.peek (S : Sat K Fo A H σ ρ) : Sat K Fo (ownA A H σ ρ) H σ (peekS ρ) := by
  refine ⟨fun b o h => ?_, fun b o h => ?_, by unfold peekS; rw [List.length_map]; exact S.len, fun i d h => ?_, fun i m h => ?_, fun i j m m' a h _ _ _ => ?_⟩
  · unfold ownA at h
    split at h
    · exact h
    · exact S.ex b o h
  · obtain ⟨g1, g2⟩ := S.fo b o h
    refine ⟨g1, ?_⟩
    unfold ownA
    split
    · rename_i hb
      obtain ⟨i, m, h1, h2⟩ := hb
      obtain ⟨a, u, e1, e2, e3, _⟩ := S.own i m h1
      rw [h2] at e1; cases e1
      rw [e3] at h; cases h
    · exact g2
  · rcases peek_get h with ⟨d', e, h1⟩ | ⟨m, e, h1⟩
    · cases e
      obtain ⟨v, e1, e2⟩ := S.val i d h1
      exact ⟨v, e1, e2.mn (ownA_ex S)⟩
    · cases e
      obtain ⟨a, u, e1, e2, e3, e4, e5⟩ := S.own i m h1
      exact ⟨.ref a, e1, (e5.mn (ownA_ex S)).rep (by rw [ownA_at S h1 e1]; exact e4)⟩
  · rcases peek_get h with ⟨d', e, _⟩ | ⟨m, e, _⟩ <;> cases e
  · rcases peek_get h with ⟨d', e, _⟩ | ⟨m, e, _⟩ <;> cases e
theorem Sat.unpeek (S : Sat K Fo A H σ ρ) (e : Ex (ownA A H σ ρ) A') (S' : Sat K Fo A' H' σ ρ') : Sat K Fo A H' σ ρ := by
  refine ⟨(ownA_ex S).trans (e.trans S'.ex), fun b o h => ?_, S.len, S.val, fun i m h => ?_, S.inj⟩
  · exact ⟨(S'.fo b o h).1, (S.fo b o h).2⟩
  · obtain ⟨a, u, e1, e2, e3, e4, e5⟩ := S.own i m h
    exact ⟨a, u, e1, e2, e3, S'.ex _ _ (e _ _ (by rw [ownA_at S h e1]; exact e4)), e5⟩
end
theorem rd_peek {K : PySem.W.Frag} {W : WX} {d : DEn} {σ : L2.St} {H : Hp} {Q : VK} (h : rd K W (dPeek d) σ H Q) : rd K W d σ H Q := by
  obtain ⟨Fo, A, ρ, S, p⟩ := h
  refine ⟨Fo, _, _, S.peek, ?_⟩
  unfold dPeek at p
  cases hd : d (peekS ρ) with
  | bad => rw [hd] at p; exact p.elim
  | exc x ρ1 =>
    rw [hd] at p
    obtain ⟨hn, p2⟩ := ifB (P := fun z : ERes => Post K W Fo A σ z Q) p (fun z => z)
    exact fun cls dct A' H' e' S' rx => p2 cls dct A H' (Ex.refl A) (S.unpeek e' S') ⟨rx.1, fun _ => rx.2.1 hn, fun hne => absurd hn hne⟩
  | ok r ρ1 =>
    rw [hd] at p
    cases r with
    | own m => exact p.elim
    | val x =>
      obtain ⟨hf, p2⟩ := ifB (P := fun z : ERes => Post K W Fo A σ z Q) p (fun z => z)
      intro v A' H' e' S' rv
      cases rv with
      | val rv => exact p2 v A H' (Ex.refl A) (S.unpeek e' S') (.val (rv.flat hf))
theorem de_peek {X : Cx} {W : WX} {e : Expr} {d : DEn} (h : DE X W e d) : DE X W e (dPeek d) := PE.weak h fun σ H Q q => rd_peek q
theorem dt_peek {X : Cx} {W : WX} {e : Expr} {d : DEn} (h : DT X W e d) : DT X W e (dPeek d) := PT.weak h fun σ H Q q => rd_peek q
end DL

set_option maxRecDepth 100000
set_option maxHeartbeats 2000000
/-! DL16: in, shifts, str(n), what else is built in. -/
namespace DL
open PySem PySem.Spec L2
open Evl (Ex)
/-- x in l of plain data -/
def inP (x y : D) : Option Bool := match x.py, y.py with
  | some p, some (.list ds) => if SeqAt.shaped p && SeqAt.shaped (.list ds) then some (ds.any fun z => PyData.eqv z p) else none
  | _, _ => none
def inS (x : D) (z : Str) : Option Bool := match x with
  | .str t => (match t.cps.toList with
    | [c] => some (decide (c ∈ z.cps.toList))
    | _ => none)
  | _ => none
theorem inS_of {x : D} {z : Str} {b : Bool} (h : inS x z = some b) : ∃ c, x = .str ⟨#[c]⟩ ∧ decide (c ∈ z.cps.toList) = b := by
  cases x with
  | str t =>
    unfold inS at h
    dsimp only at h
    split at h
    · rename_i c e
      refine ⟨c, ?_, Option.some.inj h⟩
      obtain ⟨⟨l⟩⟩ := t
      simp at e
      subst e
      rfl
    · cases h
  | _ => cases h
def gIn (x y : D) : VRes := match y with
  | .str z => (match inS x z with
    | some b => .ok (.val (.bl b))
    | none => .bad)
  | y => (match inP x y with
    | some b => .ok (.val (.bl b))
    | none => .bad)
def gNotIn (x y : D) : VRes := (gIn x y).not
section
variable {X : Cx} {W : WX}
theorem inP_of {K : PySem.W.Frag} {Fo A H : Hp} {σ : L2.St} {ρ : Slots} {x y : V} {dx dy : D} {Q : VK} {W : WX} (neg : Bool) (S : Sat K Fo A H σ ρ) (r1 : Rep K A x dx) (r2 : Rep K A y dy)
    (p : Post K W Fo A σ ((match inP dx dy with | some b => VRes.ok (.val (.bl (if neg then !b else b))) | none => .bad).at ρ) Q) : (if neg then rNotInD K else rInD K) x y H Q := by
  unfold inP at p
  cases e1 : dx.py with
  | none => rw [e1] at p; exact p.elim
  | some a =>
    cases e2 : dy.py with
    | none => rw [e1, e2] at p; exact p.elim
    | some l =>
      cases l with
      | list ds =>
        rw [e1, e2] at p
        replace p : Post K W Fo A σ ((match (if SeqAt.shaped a && SeqAt.shaped (.list ds) then some (ds.any fun z => PyData.eqv z a) else none) with | some b => VRes.ok (.val (.bl (if neg then !b else b))) | none => .bad).at ρ) Q := p
        cases e3 : (SeqAt.shaped a && SeqAt.shaped (.list ds)) with
        | false => rw [e3] at p; exact p.elim
        | true =>
          rw [e3] at p
          obtain ⟨s1, s2⟩ := Bool.and_eq_true_iff.mp e3
          cases neg with
          | false => exact ⟨a, ds, (r1.mn S.ex).dp _ _ _ e1, (r2.mn S.ex).dp _ _ _ e2, s1, s2, Post.now p S (.bl _)⟩
          | true => exact ⟨a, ds, (r1.mn S.ex).dp _ _ _ e1, (r2.mn S.ex).dp _ _ _ e2, s1, s2, Post.now p S (.bl _)⟩
      | _ => rw [e1, e2] at p; exact p.elim
theorem o_in (hu : X.A.units + 65 < cLine) : OpD X W (compareOp .In) gIn := OpD.or op_inS (op_inD hu) fun σ H Fo A ρ x y dx dy Q S r1 r2 p => by
  unfold gIn at p
  split at p
  · rename_i z
    cases r2
    cases e : inS dx z with
    | none => rw [e] at p; exact p.elim
    | some b =>
      rw [e] at p
      obtain ⟨c, rfl, rfl⟩ := inS_of e
      cases r1
      exact .inl ⟨_, z, rfl, rfl, Post.now p S (.bl _)⟩
  · exact .inr (inP_of (W := W) false S r1 r2 (by
      cases e : inP dx dy with
      | none => rw [e] at p; exact p
      | some b => rw [e] at p; exact p))
theorem o_notIn (hu : X.A.units + 65 < cLine) : OpD X W (compareOp .NotIn) gNotIn := OpD.or op_notInS (op_notInD hu) fun σ H Fo A ρ x y dx dy Q S r1 r2 p => by
  unfold gNotIn gIn at p
  split at p
  · rename_i z
    cases r2
    cases e : inS dx z with
    | none => rw [e] at p; exact p.elim
    | some b =>
      rw [e] at p
      obtain ⟨c, rfl, rfl⟩ := inS_of e
      cases r1
      exact .inl ⟨_, z, rfl, rfl, Post.now (d := .bl (!decide (c ∈ z.cps.toList))) p S (.bl _)⟩
  · exact .inr (inP_of (W := W) true S r1 r2 (by
      cases e : inP dx dy with
      | none => rw [e] at p; exact p
      | some b => rw [e] at p; exact p))
/-- shifts -/
def shlOk (i j : Int) : Bool := decide (0 ≤ j) && (decide (j ≤ 1000000) && decide (i.natAbs < 2 ^ 64))
def shrOk (_ j : Int) : Bool := decide (0 ≤ j)
def gShl : D → D → VRes := gIc shlOk fun i j => .int (i * 2 ^ j.toNat)
def gShr : D → D → VRes := gIc shrOk fun i j => .int (i / 2 ^ j.toNat)
theorem o_shl : OpD X W (binaryOp .LShift) gShl := opd_Ic op_shl (fun i j h => by unfold shlOk at h; simp only [Bool.and_eq_true, decide_eq_true_eq] at h; exact ⟨h.1, h.2.1, h.2.2⟩) fun _ _ _ _ => .int _
theorem o_shr : OpD X W (binaryOp .RShift) gShr := opd_Ic op_shr (fun i j h => of_decide_eq_true h) fun _ _ _ _ => .int _
/-- str(n) -/
def gStr : List D → VRes
  | [.int i] => if i.natAbs.log2 < 1920 then .ok (.val (.str (toString i))) else .bad
  | _ => .bad
/-- sep.join(texts) -/
def strsOf : List D → Option (List Str)
  | [] => some []
  | .str b :: r => (strsOf r).map (b :: ·)
  | _ => none
theorem RepL.strs {K : PySem.W.Frag} {A : Hp} : ∀ {vs : List V} {ds : List D} {bs : List Str}, RepL K A vs ds → strsOf ds = some bs → vs = bs.map V.str
  | _, _, _, .nil, e => by cases e; rfl
  | _, _, _, .cons h r, e => by
    cases h <;> first
      | cases e
      | (obtain ⟨bs, e1, e2⟩ := Option.map_eq_some_iff.mp (show (strsOf _).map _ = _ from e)
         subst e2
         rw [r.strs e1] <;> rfl)
def joinL (a : Str) (xs : List D) : VRes := match strsOf xs with
  | some ys => if (ys.map (·.length)).sum + ys.length * a.length ≤ 16777216 then .ok (.val (.str (Txt.join a ys))) else .bad
  | none => .bad
def gJoin (a : Str) : D → VRes
  | .lst xs => joinL a xs
  | .fix xs => joinL a xs
  | .tup xs => joinL a xs
  | _ => .bad
def dJoin (d1 d2 : DEn) : DEn := fun ρ => (d1 ρ).bind fun x ρ1 => match x with
  | .str a => (d2 ρ1).bind fun y ρ2 => (gJoin a y).at ρ2
  | _ => .bad
theorem joinL_of {K : PySem.W.Frag} {Fo A H : Hp} {σ : L2.St} {ρ : Slots} {a : Str} {xs : List V} {ds : List D} {Q : VK} (S : Sat K Fo A H σ ρ) (r : RepL K A xs ds) (p : Post K W Fo A σ ((joinL a ds).at ρ) Q) :
    ∃ ys : List Str, xs = ys.map V.str ∧ (ys.map (·.length)).sum + ys.length * a.length ≤ 16777216 ∧ Q (.str (Txt.join a ys)) H := by
  unfold joinL at p
  cases e : strsOf ds with
  | none => rw [e] at p; exact p.elim
  | some ys =>
    rw [e] at p
    obtain ⟨hc, p2⟩ := ifB (P := fun z : VRes => Post K W Fo A σ (z.at ρ) Q) p (fun z => z)
    exact ⟨ys, r.strs e, hc, Post.now p2 S (.str _)⟩
theorem de_join {o e : Expr} {d1 d2 : DEn} {apos pos : Pos} (ho : DE X W o d1) (he : DE X W e d2) (hs : starEach [e] X.env = [(false, eval e X.env)] := by rfl) (hbase : attributeBase o "join" X.env (eval o X.env) = eval o X.env := by rfl) (hline : (apos.endLine == pos.line) = true := by rfl) :
    DE X W (.Call (.Attribute o "join" apos) [e] [] pos) (dJoin d1 d2) := PE.weak (pe_join ho he hs hbase hline) fun σ H Q ⟨Fo, A, ρ, S, p⟩ => ⟨Fo, A, ρ, S, post_bind p fun x dx A1 H1 ρ1 e1 S1 r1 p1 => by
  cases r1 with
  | str a =>
    refine ⟨⟨a, rfl⟩, Fo, A1, ρ1, S1, post_bind p1 fun y dy A2 H2 ρ2 e2 S2 r2 p2 => ?_⟩
    cases r2 with
    | lst h l =>
      obtain ⟨ys, rfl, hc, q⟩ := joinL_of S2 l p2
      exact ⟨a, _, ys, rfl, rfl, .inl (.inl (.inl (S2.ex _ _ h))), hc, q⟩
    | fix h l =>
      obtain ⟨ys, rfl, hc, q⟩ := joinL_of S2 l p2
      exact ⟨a, _, ys, rfl, rfl, .inl (Evl.ex_l S2.ex h), hc, q⟩
    | tup h l =>
      obtain ⟨ys, rfl, hc, q⟩ := joinL_of S2 l p2
      exact ⟨a, _, ys, rfl, rfl, .inr (Evl.ex_t S2.ex h), hc, q⟩
    | _ => exact p2.elim
  | _ => exact p1.elim⟩
theorem k_str : ∀ σ vs ds (Fo A H : Hp) ρ (Q : VK), Sat X.K Fo A H σ ρ → RepL X.K A vs ds → Post X.K W Fo A σ ((gStr ds).at ρ) Q → ∃ i, vs = [.int i] ∧ i.natAbs.log2 < 1920 ∧ Q (.str (toString i)) H := fun σ vs ds Fo A H ρ Q S ra p => by
  cases ra with
  | nil => exact p.elim
  | cons h r =>
    cases r with
    | cons _ _ => cases h <;> exact p.elim
    | nil =>
      cases h <;> first
        | exact p.elim
        | (rename_i i
           obtain ⟨hc, p2⟩ := ifB (P := fun z : VRes => Post X.K W Fo A σ (z.at ρ) Q) p (fun z => z)
           exact ⟨i, rfl, hc, Post.now p2 S (.str _)⟩)
theorem de_str1 {p pos : Pos} {e : Expr} {es : List Expr} {args : List Arg} (hg : Gl X "str") (hm : X.mg "str" = none) (ha : DA X W (e :: es) args) (he : starEach (e :: es) X.env = (false, eval e X.env) :: starEach es X.env := by rfl) (hpl : (backTo pos (starEach es X.env)).any (·.1) = false := by rfl) : DE X W (.Call (.Name "str" p) (e :: es) [] pos) (dAll gStr args) :=
  de_callTy call_str_int hg hm (by decide +kernel) ha (fun σ vs ds Fo A H ρ Q S ra q => k_str σ vs ds Fo A H ρ Q S ra q) (he := he) (hpl := hpl)
end
end DL

set_option maxRecDepth 100000
set_option maxHeartbeats 2000000
/-! DL17: walking a text, enumerate. -/
namespace DL
open PySem PySem.Spec L2
open Evl (Ex)
theorem room65 {k : Nat} {A : Around} (h : Room k A) : A.units + 65 < cLine := by have := h.un; omega
def chars (z : Str) : List D := z.cps.toList.map fun c => D.str ⟨#[c]⟩
def gStrI : D → Option (List D)
  | .str z => some (chars z)
  | _ => none
theorem itd_s {K : PySem.W.Frag} {A : Hp} {z : Str} : ItD K (Its z) A (chars z) where
  go := fun i H e hi => by unfold chars at hi; exact (show i < z.cps.size by simpa using hi)
  stop := fun i H e hi => by unfold chars at hi; exact (show z.cps.size ≤ i by simpa using hi)
  yld := fun i H x H' Fo A' σ ρ d e S hd hy => by
    obtain ⟨rfl, c, h1, rfl⟩ := hy
    unfold chars at hd
    rw [List.getElem?_map] at hd
    rw [Array.getElem?_toList, h1] at hd
    cases hd
    exact ⟨A', Evl.Ex.refl _, S, .str _⟩
theorem di_str {X : Cx} {W : WX} {tg e : Expr} {d : DEn} (he : DE X W e d) : DI X W tg e (srcOf gStrI d) := PI.weak (pi_str he) fun σ H R' h => rdI_of h fun v dd ds Fo A H ρ S r hg k => by
  cases r with
  | str z => cases hg; exact ⟨z, rfl, k _ A H (Ex.refl A) S itd_s⟩
  | _ => cases hg
/-- enumerate(l) -/
def enumD : Nat → List D → List D
  | _, [] => []
  | n, x :: xs => .tup [.int n, x] :: enumD (n + 1) xs
theorem enumD_len : ∀ (n : Nat) (xs : List D), (enumD n xs).length = xs.length
  | _, [] => rfl
  | n, x :: xs => congrArg Nat.succ (enumD_len (n + 1) xs)
theorem enumD_get : ∀ (n : Nat) (xs : List D) (i : Nat) (d : D), (enumD n xs)[i]? = some d → ∃ x, xs[i]? = some x ∧ d = .tup [.int ((n + i : Nat) : Int), x]
  | _, [], i, d, h => by simp [enumD] at h
  | n, x :: xs, 0, d, h => by simp [enumD] at h; exact ⟨x, rfl, h.symm⟩
  | n, x :: xs, i + 1, d, h => by
    obtain ⟨y, h1, h2⟩ := enumD_get (n + 1) xs i d (by simpa [enumD] using h)
    refine ⟨y, by simpa using h1, ?_⟩
    rw [h2, show n + 1 + i = n + (i + 1) by omega]
theorem itd_e {K : PySem.W.Frag} {A : Hp} {a : Addr} {xs : List V} {ds : List D} (h : ∀ H, Ex A H → SqL K H a xs) (r : RepL K A xs ds) : ItD K (Ite K a) A (enumD 0 ds) where
  go := fun i H e hi => by
    have hx : i < xs.length := by rw [r.length]; rw [enumD_len] at hi; exact hi
    exact ⟨xs, xs[i], h H e, List.getElem?_eq_getElem hx⟩
  stop := fun i H e hi => ⟨xs, h H e, by rw [r.length]; rw [enumD_len] at hi; exact hi⟩
  yld := fun i H x H' Fo A' σ ρ d e S hd hy => by
    obtain ⟨T, x', rfl, hT, rfl, hx⟩ := hy
    obtain ⟨y, h1, rfl⟩ := enumD_get 0 ds i d hd
    obtain ⟨v, e1, e2⟩ := r.get h1
    have e3 := hx xs (h H (e.trans S.ex))
    have e4 : v = x' := Option.some.inj (e1.symm.trans e3)
    subst e4
    have fA := S.freeA hT
    refine ⟨upd A' T (.tup [.int (i : Nat), v]), Ex.new fA, S.new hT, .tup (.inl (.inl upd_same)) ?_⟩
    rw [Nat.zero_add]
    exact .cons (.int _) (.cons ((e2.mn e).mn (Ex.new fA)) .nil)
def kEn : List D → Slots → IRes
  | [.lst xs], ρ1 => .ok (enumD 0 xs) ρ1
  | [.fix xs], ρ1 => .ok (enumD 0 xs) ρ1
  | _, _ => .bad
abbrev srcEn (args : List Arg) : DSrc := srcA kEn args
theorem di_enum {X : Cx} {W : WX} {p pos tpos : Pos} {elts : List Expr} {kk : Nat} {a : Expr} {args : List Arg} (hg : Gl X "enumerate") (hm : X.mg "enumerate" = none) (ha : DA X W [a] args) (na : starEach [a] X.env = [(false, eval a X.env)] := by rfl) : DI X W (.Tuple elts kk tpos) (.Call (.Name "enumerate" p) [a] [] pos) (srcEn args) :=
  PI.weak (pi_enum hg hm ha na) fun σ H R' ⟨Fo, A, ρ, S, p⟩ => ⟨Fo, A, ρ, S, runA_of (H := H) (k := kEn) (fun ρ => rfl) p fun vs ds A' H' ρ' e S' r q => by
    cases r with
    | nil => exact q.elim
    | cons h r =>
      cases r with
      | cons _ _ => cases h <;> exact q.elim
      | nil =>
        cases h with
        | lst h l => exact ⟨_, _, rfl, .inl (.inl (S'.ex _ _ h)), q _ A' H' e S' (itd_e (fun H e => .inl (.inl (e _ _ h))) l)⟩
        | fix h l => exact ⟨_, _, rfl, Evl.ex_l S'.ex h, q _ A' H' e S' (itd_e (fun H e => Evl.ex_l e h) l)⟩
        | _ => exact q.elim⟩
end DL

set_option maxRecDepth 100000
set_option maxHeartbeats 2000000
/-! DL18: displays with stars. -/
namespace DL
open PySem PySem.Spec L2
open Evl (Ex)
/-- items of a display: (starred, what) -/
def runS : List (Bool × DEn) → Slots → IRes
  | [], ρ => .ok [] ρ
  | (st, d) :: r, ρ => match d ρ with
    | .ok v ρ1 => (match (if st then (match v.toD with
        | .lst xs => some xs
        | .fix xs => some xs
        | .tup xs => some xs
        | _ => none) else some [v.toD]) with
      | some xs => (match runS r ρ1 with
        | .ok ys ρ2 => .ok (xs ++ ys) ρ2
        | .exc x ρ2 => .exc x ρ2
        | .bad => .bad)
      | none => .bad)
    | .exc x ρ1 => .exc x ρ1
    | .bad => .bad
def PostL (K : PySem.W.Frag) (W : WX) (Fo A : Hp) (σ : L2.St) (res : IRes) (Q : List V → Hp → Prop) : Prop := match res with
  | .ok ds ρ' => ∀ vs A' H', Ex A A' → Sat K Fo A' H' σ ρ' → RepL K A' vs ds → Q vs H'
  | .exc x ρ' => ∀ cls dct A' H', Ex A A' → Sat K Fo A' H' σ ρ' → RepX K A' cls dct x → W cls dct σ H'
  | .bad => False
def rdL (K : PySem.W.Frag) (W : WX) (args : List (Bool × DEn)) : TA := fun σ H Q => ∃ Fo A ρ, Sat K Fo A H σ ρ ∧ PostL K W Fo A σ (runS args ρ) Q
def DAs (X : Cx) (W : WX) (es : List Expr) (args : List (Bool × DEn)) : Prop := PA X es (rdL X.K W args)
theorem PostL.ext {K : PySem.W.Frag} {W : WX} {Fo A A' : Hp} {σ : L2.St} {res : IRes} {Q : List V → Hp → Prop} (h : PostL K W Fo A σ res Q) (e : Ex A A') : PostL K W Fo A' σ res Q := by
  cases res with
  | ok r ρ => exact fun v A2 H' e2 S r => h v A2 H' (e.trans e2) S r
  | exc x ρ => exact fun c d A2 H' e2 S r => h c d A2 H' (e.trans e2) S r
  | bad => exact h
section
variable {X : Cx} {W : WX}
theorem das_nil : DAs X W [] [] := PA.weak pa_nil fun σ H Q ⟨Fo, A, ρ, S, p⟩ => p [] A H (Ex.refl A) S .nil
/-- the tail behind the items xs -/
theorem runS_tail {K : PySem.W.Frag} {Fo A H : Hp} {σ : L2.St} {ρ : Slots} {args : List (Bool × DEn)} {xs : List D} {us : List V} {Q : List V → Hp → Prop} (S : Sat K Fo A H σ ρ) (r : RepL K A us xs)
    (p : PostL K W Fo A σ (match runS args ρ with
      | .ok ys ρ2 => .ok (xs ++ ys) ρ2
      | .exc x ρ2 => .exc x ρ2
      | .bad => .bad) Q) : rdL K W args σ H fun vs H2 => Q (us ++ vs) H2 := by
  refine ⟨Fo, A, ρ, S, ?_⟩
  cases h : runS args ρ with
  | bad => rw [h] at p; exact p
  | exc x ρ2 => rw [h] at p; exact p
  | ok ys ρ2 => rw [h] at p; exact fun vs A' H' e S' ra => p (us ++ vs) A' H' e S' ((r.mn e).append ra)
theorem das_cons {e : Expr} {es : List Expr} {d : DEn} {args : List (Bool × DEn)} (h : DE X W e d) (hs : DAs X W es args) (he : starEach (e :: es) X.env = (false, eval e X.env) :: starEach es X.env := by rfl) : DAs X W (e :: es) ((false, d) :: args) := by
  refine PA.weak (pa_cons h hs he) fun σ H Q ⟨Fo, A, ρ, S, p⟩ => ⟨Fo, A, ρ, S, Post.toVal ?_⟩
  unfold runS at p
  cases hd : d ρ with
  | bad => rw [hd] at p; exact p
  | exc x ρ1 => rw [hd] at p; exact p
  | ok r ρ1 =>
    rw [hd] at p
    intro v A' H' e' S' rv
    cases rv with
    | val rv => exact runS_tail (us := [v]) (xs := [r.toD]) S' (.one rv) (PostL.ext p e')
theorem das_star {e : Expr} {es : List Expr} {d : DEn} {args : List (Bool × DEn)} {sp : Pos} (h : DE X W e d) (hs : DAs X W es args) (he : starEach (.Starred e sp :: es) X.env = (true, eval e X.env) :: starEach es X.env := by rfl) : DAs X W (.Starred e sp :: es) ((true, d) :: args) := by
  refine PA.weak (StX.pa_star h hs he) fun σ H Q ⟨Fo, A, ρ, S, p⟩ => ⟨Fo, A, ρ, S, Post.toVal ?_⟩
  unfold runS at p
  cases hd : d ρ with
  | bad => rw [hd] at p; exact p
  | exc x ρ1 => rw [hd] at p; exact p
  | ok r ρ1 =>
    rw [hd] at p
    intro v A' H' e' S' rv
    cases rv with
    | val rv =>
      dsimp only at p
      generalize hr : r.toD = dd at p rv
      cases rv with
      | lst h l => exact ⟨_, _, rfl, .inr (.inl (.inl (S'.ex _ _ h))), runS_tail S' l (PostL.ext p e')⟩
      | fix h l => exact ⟨_, _, rfl, .inr (Evl.ex_l S'.ex h), runS_tail S' l (PostL.ext p e')⟩
      | tup h l => exact ⟨_, _, rfl, .inl (Evl.ex_t S'.ex h), runS_tail S' l (PostL.ext p e')⟩
      | _ => exact p.elim
def dAllS (g : List D → VRes) (args : List (Bool × DEn)) : DEn := fun ρ => match runS args ρ with
  | .ok ds ρ1 => (g ds).at ρ1
  | .exc x ρ1 => .exc x ρ1
  | .bad => .bad
theorem post_allS {g : List D → VRes} {args : List (Bool × DEn)} {K : PySem.W.Frag} {Fo A : Hp} {σ : L2.St} {ρ : Slots} {Q : VK} {Q' : List V → Hp → Prop} (p : Post K W Fo A σ (dAllS g args ρ) Q)
    (h : ∀ vs ds A' H' ρ', Ex A A' → Sat K Fo A' H' σ ρ' → RepL K A' vs ds → Post K W Fo A' σ ((g ds).at ρ') Q → Q' vs H') : PostL K W Fo A σ (runS args ρ) Q' := by
  unfold dAllS at p
  cases e : runS args ρ with
  | bad => rw [e] at p; exact p
  | exc x ρ1 => rw [e] at p; exact p
  | ok ds ρ1 => rw [e] at p; exact fun vs A' H' e' S' ra => h vs ds A' H' ρ1 e' S' ra (Post.ext p e')
theorem de_lstS {es : List Expr} {args : List (Bool × DEn)} {pos : Pos} (h : DAs X W es args) : DE X W (.List es pos) (dAllS DL.gLst args) := PE.weak (pe_lst h) fun σ H Q ⟨Fo, A, ρ, S, p⟩ => ⟨Fo, A, ρ, S, post_allS p fun vs ds A' H' ρ' e S' r p' => by
  obtain ⟨hc, p'⟩ := ifB (P := fun z : VRes => Post X.K W Fo A' σ (z.at ρ') Q) p' (fun z => z)
  exact ⟨by rw [r.length]; exact hc, fun q hq => Post.newL p' S' hq r⟩⟩
theorem de_tupS {x1} {es : List Expr} {args : List (Bool × DEn)} {pos : Pos} (h : DAs X W es args) : DE X W (.Tuple es x1 pos) (dAllS DL.gTup args) := PE.weak (pe_tup h) fun σ H Q ⟨Fo, A, ρ, S, p⟩ => ⟨Fo, A, ρ, S, post_allS p fun vs ds A' H' ρ' e S' r p' => by
  obtain ⟨hc, p'⟩ := ifB (P := fun z : VRes => Post X.K W Fo A' σ (z.at ρ') Q) p' (fun z => z)
  exact ⟨by rw [r.length]; exact hc, fun q hq => Post.newT p' S' hq r⟩⟩
/-- t.split(sep) -/
def gSplit (a : Str) : D → VRes
  | .str b => if (b.length == 0) = false ∧ a.length + 2 ≤ sizeLine then .ok (.own (.lst ((Txt.split a b).map D.str))) else .bad
  | _ => .bad
def dSplit (d1 d2 : DEn) : DEn := fun ρ => (d1 ρ).bind fun x ρ1 => match x with
  | .str a => (d2 ρ1).bind fun y ρ2 => (gSplit a y).at ρ2
  | _ => .bad
theorem RepL.ofStrs {K : PySem.W.Frag} {A : Hp} : ∀ bs : List Str, RepL K A (bs.map V.str) (bs.map D.str)
  | [] => .nil
  | b :: bs => .cons (.str b) (RepL.ofStrs bs)
theorem de_split {o e : Expr} {d1 d2 : DEn} {apos pos : Pos} (ho : DE X W o d1) (he : DE X W e d2) (hs : starEach [e] X.env = [(false, eval e X.env)] := by rfl) (hbase : attributeBase o "split" X.env (eval o X.env) = eval o X.env := by rfl) (hline : (apos.endLine == pos.line) = true := by rfl) :
    DE X W (.Call (.Attribute o "split" apos) [e] [] pos) (dSplit d1 d2) := PE.weak (pe_split ho he hs hbase hline) fun σ H Q ⟨Fo, A, ρ, S, p⟩ => ⟨Fo, A, ρ, S, post_bind p fun x dx A1 H1 ρ1 e1 S1 r1 p1 => by
  cases r1 with
  | str a =>
    refine ⟨⟨a, rfl⟩, Fo, A1, ρ1, S1, post_bind p1 fun y dy A2 H2 ρ2 e2 S2 r2 p2 => ?_⟩
    cases r2 with
    | str b =>
      obtain ⟨hc, p3⟩ := ifB (P := fun z : VRes => Post X.K W Fo A2 σ (z.at ρ2) Q) p2 (fun z => z)
      exact ⟨a, b, rfl, rfl, hc.1, hc.2, fun q hq => Post.newL p3 S2 hq (RepL.ofStrs _)⟩
    | _ => exact p2.elim
  | _ => exact p1.elim⟩
end
end DL

set_option maxRecDepth 100000
set_option maxHeartbeats 2000000
/-! DL19: match over texts, a module's lists. -/
namespace DL
open PySem PySem.Spec L2
open Evl (Ex)
/-- cases: a text, or none for any -/
def runCases : List (Option Str × DSt) → Str → DSt
  | [], _ => sNil
  | (none, s) :: _, _ => s
  | (some c, s) :: r, z => if z = c then s else runCases r z
def sMatch (d : DEn) (cs : List (Option Str × DSt)) : DSt := fun ρ => (d ρ).asVal.thenS fun r ρ1 => match r with
  | .val (.str z) => runCases cs z ρ1
  | _ => .bad
section
variable {X : Cx} {W : WX} {P : List Nat}
def DCs (X : Cx) (W : WX) (P : List Nat) (cases : List MatchCase) (cs : List (Option Str × DSt)) : Prop :=
  ∀ (pins : List (Addr × Obj)) (s : Shared) (σ : L2.St) (H : Hp) (E : Ends) (z : Str) (t : Tok) (first : Bool), Inv X pins σ H s → rdS X.K W P (runCases cs z) E σ H →
    wpAny (model X.prog X.w) X.A (matchCases cases X.env (.str z t) first) (SP X pins E) X.xe s
theorem dcs_nil : DCs X W P [] [] := fun pins s σ H E z t first I ⟨Fo, A, ρ, S, p⟩ => wpAny_matchCases_nil ⟨σ, H, I, PostS.now p S⟩
theorem dcs_any {body : List Stmt} {rest : List MatchCase} {sb : DSt} {cs : List (Option Str × DSt)} {p : Pos} (hb : DSs X W P body sb) : DCs X W P (⟨.MatchAs none none p, none, body⟩ :: rest) ((none, sb) :: cs) := fun pins s σ H E z t first I h =>
  wpAny_matchCases_cons (wpAny_matchPattern_Capture (wpAny_assignInOrder_none (hb.run pins s σ H E I h)))
theorem dcs_str {c : Str} {body : List Stmt} {rest : List MatchCase} {sb : DSt} {cs : List (Option Str × DSt)} {j : Nat} {p p2 : Pos} (hb : DSs X W P body sb) (hr : DCs X W P rest cs) : DCs X W P (⟨.MatchValue (.Constant (.str c) j p) p2, none, body⟩ :: rest) ((some c, sb) :: cs) := fun pins s σ H E z t first I h => by
  refine wpAny_matchCases_cons (wpAny_matchPattern_Value (thn ((pe_str (X := X) (x := c) (j := j) (pos := p)).run pins s σ H (fun v H1 => v = .str c ∧ H1 = H) I ⟨rfl, rfl⟩) fun u s1 ⟨v, H1, I1, r1, e1, e2⟩ => ?_))
  subst e1 e2
  refine thn (op_eq pins s1 σ H1 (.str z) (.str c) (.str z t) u (fun v H2 => v = .bl (decide (z = c)) ∧ H2 = H1) I1 ⟨t, rfl⟩ r1 ⟨rfl, ?_⟩) fun b s2 ⟨v, H2, I2, r2, e1, e2⟩ => ?_
  · rw [show decide (V.str z = V.str c) = decide (z = c) from decide_eq_decide.mpr ⟨fun h => V.str.inj h, fun h => h ▸ rfl⟩]
    exact ⟨rfl, rfl⟩
  · subst e1 e2
    cases r2
    refine wpAny_truthy_bool ?_
    unfold runCases at h
    by_cases hz : z = c
    · rw [if_pos hz] at h
      simp only [hz, decide_true, if_true]
      exact wpAny_assignInOrder_none (hb.run pins s2 σ H2 E I2 h)
    · rw [if_neg hz] at h
      simp only [hz, decide_false]
      exact hr pins s2 σ H2 E z t false I2 h
theorem ds_match {e : Expr} {d : DEn} {cases : List MatchCase} {cs : List (Option Str × DSt)} {pos : Pos} (he : DE X W e d) (hc : DCs X W P cases cs) : DS X W P (.Match e cases pos) (sMatch d cs) := ⟨fun pins s σ H E I ⟨Fo, A, ρ, S, p⟩ => by
  have h' : rd X.K W d σ H fun v H1 => ∃ z, v = .str z ∧ rdS X.K W P (runCases cs z) E σ H1 := ⟨Fo, A, ρ, S, Post.asVal (post_then p fun v r A' H' ρ' e S' rv q => by
    cases rv with
    | own => exact q.elim
    | val rv =>
      cases rv with
      | str z => exact ⟨z, rfl, Fo, A', ρ', S', q⟩
      | _ => exact q.elim)⟩
  refine wpAny_Match (thn (he.run pins s σ H _ I h') fun u s1 ⟨v, H1, I1, r1, z, e1, q⟩ => ?_)
  subst e1
  obtain ⟨t, rfl⟩ := r1
  exact hc pins s1 σ H1 E z t true I1 q⟩
end
end DL
namespace DL
open PySem PySem.Spec L2
open Evl (Ex)
/-! ### y = [..] -/
section
variable {X : Cx} {W : WX} {P : List Nat}
theorem ds_setLc {i : Nat} {y : Str} {py : Pos} {elt tg iter : Expr} {ifs : List Expr} {scope : Scope} {own : List (Str × Nat)} {pos spos : Pos} {src : DSrc} {t : Tg} {tt te : DEn} (hc : X.calm = true) (hN : X.N.Nodup) (hy : X.N[i]? = some y) (hyl : X.env.scope.names.lookup y = some .local) (hP : i ∉ P)
    (hsw : swapsWith (.ListComp elt [⟨tg, iter, ifs, 0⟩] scope pos) (some (.Name y py)) spos.line X.env = pure true) (hi : DI X W tg iter src) (ok : BlkOk X.N X.env.scope scope own)
    (hg : ∀ (s : Shared) (H : Hp) (C : Addr) (cl : List (Str × Addr)) (fp : List Addr), DG (X.blk s H scope (compEnvC scope cl C X.env) fp) tg t) (ht : ∀ (s : Shared) (H : Hp) (C : Addr) (cl : List (Str × Addr)) (fp : List Addr), PTs (X.blk s H scope (compEnvC scope cl C X.env) fp) ifs (tB (rd X.K W0 tt)))
    (he : ∀ (s : Shared) (H : Hp) (C : Addr) (cl : List (Str × Addr)) (fp : List Addr), DE (X.blk s H scope (compEnvC scope cl C X.env) fp) W0 elt te) (hsub : ∀ i ∈ t.slots, i ∈ own.map (·.2)) (hs : ∀ x, foldedSetIterable iter X.env x = pure x := by intro _; rfl) :
    DS X W P (.Assign [.Name y py] (.ListComp elt [⟨tg, iter, ifs, 0⟩] scope pos) spos) (sSet i (dLc src (own.map (·.2)) t tt te)) :=
  PS.weak (ps_setLc (g := rdG X.K t) (tt := tB (rd X.K W0 tt)) (te := rd X.K W0 te) hc hN hy hyl hsw hi ok hg ht he hs) fun D σ H ⟨Fo, A, ρ, S, p⟩ => by
    have p' : Post X.K W Fo A σ (dLc src (own.map (·.2)) t tt te ρ) fun v H' => gName i v σ H' D.nx := post_then p fun v r A' H' ρ' e S' rv q => q _ A' H' (Keep.set hP) (Ex.refl _) (S'.setR rv)
    refine ⟨Fo, A, ρ, S, ?_⟩
    unfold dLc at p'
    cases hsr : src ρ with
    | bad => rw [hsr] at p'; exact p'
    | exc x ρ1 => rw [hsr] at p'; exact p'
    | ok ds ρ1 => rw [hsr] at p'; exact fun J A1 H1 e1 S1 it Dl hD => lc_reading hsub S1 it hD (Post.ext p' e1)
end
/-! ### [.. for .. for ..] -/
def runLc2 (vs vs1 : List Nat) (tg : Tg) (tt : DEn) (src1 : DSrc) (tg1 : Tg) (tt1 te : DEn) : List D → Slots → List D → ERes
  | [], ρ, acc => .ok (.own (.lst acc)) ρ
  | x :: xs, ρ, acc => match tg.asg x ρ with
    | none => .bad
    | some ρ0 => (tt ρ0).noX.bind fun b ρ1 => match b with
      | .bl true => (match src1 ρ1 with
        | .ok ds ρ2 => (match runLc vs1 tg1 tt1 te ds (wipeD ρ2 vs1) acc with
          | .ok (.own (.lst acc')) ρ3 => runLc2 vs vs1 tg tt src1 tg1 tt1 te xs (wipeD ρ3 vs) acc'
          | _ => .bad)
        | _ => .bad)
      | .bl false => runLc2 vs vs1 tg tt src1 tg1 tt1 te xs (wipeD ρ1 vs) acc
      | _ => .bad
def dLc2 (src : DSrc) (vs vs1 : List Nat) (tg : Tg) (tt : DEn) (src1 : DSrc) (tg1 : Tg) (tt1 te : DEn) : DEn := fun ρ => match src ρ with
  | .ok ds ρ1 => runLc2 vs vs1 tg tt src1 tg1 tt1 te ds (wipeD ρ1 vs) []
  | .exc x ρ1 => .exc x ρ1
  | .bad => .bad
end DL
namespace DL
open PySem PySem.Spec L2
open Evl (Ex)
/-- what runs within a block: nothing is raised -/
theorem blk_step {K : PySem.W.Frag} {W : WX} {Fo FX A5 : Hp} {σ σ2 : L2.St} {res : ERes} {k : D → DEn} {Q Q5 : VK} (pp : Post K W Fo A5 σ (res.noX.bind k) Q)
    (kk : ∀ v d A' H' ρ', Ex A5 A' → Sat K FX A' H' σ2 ρ' → Rep K A' v d → Post K W Fo A' σ (k d ρ') Q → Q5 v H') : Post K W0 FX A5 σ2 res Q5 := by
  refine Post.asVal ?_
  cases res with
  | bad => exact pp
  | exc x ρ => exact pp.elim
  | ok r ρ =>
    cases r with
    | val d => intro v A6 H6 e6 S6 rv; cases rv with | val rv => exact kk v d A6 H6 ρ e6 S6 rv (Post.ext (show Post K W Fo A5 σ (k d ρ) Q from pp) e6)
    | own m => intro v A6 H6 e6 S6 rv; cases rv with | val rv => exact kk v _ A6 H6 ρ e6 S6 rv (Post.ext (show Post K W Fo A5 σ (k m.toD ρ) Q from pp) e6)
/-- what follows the inner loop -/
def thenL (r : ERes) (k : List D → DEn) : ERes := match r with
  | .ok (.own (.lst acc)) ρ => k acc ρ
  | _ => .bad
theorem lc_inner {K : PySem.W.Frag} {W : WX} {tg : Tg} {vs vs1 : List Nat} {tt te : DEn} {J : It} {ds : List D} {Fo A1 H1 : Hp} {σ σ2 : L2.St} {ρ1 : Slots} {Q : VK} {Dl : Addr} {acc0 : List D} {accV0 : List V} {k : List D → DEn} {Nx : Hp → Prop}
    (hsub : ∀ i ∈ tg.slots, i ∈ vs1) (hvs : ∀ i ∈ vs1, i ∈ vs) (S1 : Sat K (upd Fo Dl (.lst accV0)) A1 H1 σ2 ρ1) (it : ItD K J A1 ds) (r0 : RepL K A1 accV0 acc0) (hw : wipe σ2 vs = wipe σ vs)
    (p : Post K W Fo A1 σ (thenL (runLc vs1 tg tt te ds (wipeD ρ1 vs1) acc0) k) Q)
    (hN : ∀ {A' H : Hp} {ρ' : Slots} {acc : List D} {accV : List V}, Ex A1 A' → Sat K (upd Fo Dl (.lst accV)) A' H (wipe σ vs) (wipeD ρ' vs) → RepL K A' accV acc → Post K W Fo A' σ (k acc ρ') Q → Nx H) :
    ∃ Wv : Nat → Nat → Hp → Prop, (∃ m, Wv 0 m H1) ∧ ∀ i m H, Wv i m H →
      (J.stop i H ∧ Nx H) ∨ (J.go i H ∧ ∃ Nx1 : Hp → Prop, (∀ H', Nx1 H' → ∃ m', m' < m ∧ Wv (i + 1) m' H') ∧ ∀ x H', J.yld i H x H' → rdG K tg x (wipe σ2 vs1) H' fun σ3 H2 => wipe σ3 vs1 = wipe σ2 vs1 ∧ tB (rd K W0 tt) σ3 H2 fun b H3 =>
        if b = true then rd K W0 te σ3 H3 fun y H4 => ∃ acc, H4 Dl = some (.lst acc) ∧ acc.length < sizeLine ∧ Nx1 (upd H4 Dl (.lst (acc ++ [y]))) else Nx1 H3) := by
  refine ⟨fun i m H => m = ds.length - i ∧ i ≤ ds.length ∧ ∃ A' ρ' acc accV, Ex A1 A' ∧ Sat K (upd Fo Dl (.lst accV)) A' H (wipe σ2 vs1) ρ' ∧ RepL K A' accV acc ∧ Post K W Fo A' σ (thenL (runLc vs1 tg tt te (ds.drop i) ρ' acc) k) Q, ?_, fun i m H hW => ?_⟩
  · exact ⟨ds.length, by omega, Nat.zero_le _, A1, _, acc0, accV0, Ex.refl _, S1.wipe vs1, r0, p⟩
  · obtain ⟨rfl, hi, A', ρ', acc, accV, e, S, ra, q⟩ := hW
    by_cases hlt : i < ds.length
    · refine .inr ⟨it.go i H (e.trans S.ex) hlt, fun H' => ∃ A' ρ' acc accV, Ex A1 A' ∧ Sat K (upd Fo Dl (.lst accV)) A' H' (wipe σ2 vs1) ρ' ∧ RepL K A' accV acc ∧ Post K W Fo A' σ (thenL (runLc vs1 tg tt te (ds.drop (i + 1)) ρ' acc) k) Q, fun H' hN => ⟨ds.length - (i + 1), by omega, rfl, hlt, hN⟩, fun x H' hy => ?_⟩
      have hd := List.getElem?_eq_getElem hlt
      obtain ⟨A2, e2, S2, rx⟩ := it.yld i H x H' _ A' _ ρ' _ e S hd hy
      rw [List.drop_eq_getElem_cons hlt] at q
      replace q : Post K W Fo A' σ (thenL (match tg.asg ds[i] ρ' with
        | none => .bad
        | some ρ0 => (tt ρ0).noX.bind fun b ρ1 => match b with
          | .bl true => (te ρ1).noX.bind fun y ρ2 => if acc.length < sizeLine then runLc vs1 tg tt te (ds.drop (i + 1)) (wipeD ρ2 vs1) (acc ++ [y]) else .bad
          | .bl false => runLc vs1 tg tt te (ds.drop (i + 1)) (wipeD ρ1 vs1) acc
          | _ => .bad) k) Q := q
      cases ha : tg.asg ds[i] ρ' with
      | none => rw [ha] at q; exact q.elim
      | some ρ0 =>
        rw [ha] at q
        dsimp only at q
        refine ⟨_, A2, ρ', ds[i], ρ0, S2, rx, ha, fun σ3 S3 off => ⟨(off.wipe hsub).trans (wipe_wipe σ2 vs1), ?_⟩⟩
        have back : ∀ {A5 H5 : Hp} {ρ5 : Slots} {FX : Hp}, Sat K FX A5 H5 σ3 ρ5 → Sat K FX A5 H5 (wipe σ2 vs1) (wipeD ρ5 vs1) := fun {A5 H5 ρ5 FX} S5 => by
          have := S5.wipe vs1
          rw [(off.wipe hsub).trans (wipe_wipe σ2 vs1)] at this
          exact this
        have thenB : ∀ {res : ERes} {g : D → DEn} {A5 : Hp} {Q5 : VK}, Post K W Fo A5 σ (thenL (res.noX.bind g) k) Q → (∀ v d A' H' ρ', Ex A5 A' → Sat K (upd Fo Dl (.lst accV)) A' H' σ3 ρ' → Rep K A' v d → Post K W Fo A' σ (thenL (g d ρ') k) Q → Q5 v H') → Post K W0 (upd Fo Dl (.lst accV)) A5 σ3 res Q5 := fun {res g A5 Q5} pp kk => by
          refine Post.asVal ?_
          cases res with
          | bad => exact pp
          | exc x ρ => exact pp.elim
          | ok r ρ =>
            cases r with
            | val d => intro v A6 H6 e6 S6 rv; cases rv with | val rv => exact kk v d A6 H6 ρ e6 S6 rv (Post.ext (show Post K W Fo A5 σ (thenL (g d ρ) k) Q from pp) e6)
            | own m => intro v A6 H6 e6 S6 rv; cases rv with | val rv => exact kk v _ A6 H6 ρ e6 S6 rv (Post.ext (show Post K W Fo A5 σ (thenL (g m.toD ρ) k) Q from pp) e6)
        refine ⟨_, A2, ρ0, S3, thenB (Post.ext q e2) fun v b A4 H4 ρ4 e4 S4 r4 q4 => ?_⟩
        cases r4 with
        | bl b =>
          cases b with
          | true =>
            refine ⟨true, rfl, iteT ⟨_, A4, ρ4, S4, thenB q4 fun y dy A5 H5 ρ5 e5 S5 r5 q5 => ?_⟩⟩
            obtain ⟨g1, g2⟩ := S5.fo Dl _ upd_same
            obtain ⟨hs, q5⟩ := ifB (P := fun z : ERes => Post K W Fo A5 σ (thenL z k) Q) q5 (fun z => z)
            have ra5 := ra.mn ((e2.trans e4).trans e5)
            refine ⟨accV, g1, by rw [ra5.length]; exact hs, A5, wipeD ρ5 vs1, acc ++ [dy], accV ++ [y], ((e.trans e2).trans e4).trans e5, (back S5).relock, ra5.append (.one r5), q5⟩
          | false =>
            refine ⟨false, rfl, iteF ⟨A4, wipeD ρ4 vs1, acc, accV, (e.trans e2).trans e4, back S4, ra.mn (e2.trans e4), q4⟩⟩
        | _ => exact q4.elim
    · have ei : i = ds.length := by omega
      refine .inl ⟨it.stop i H (e.trans S.ex) (by omega), ?_⟩
      rw [ei, List.drop_length] at q
      have S2 := S.wipe vs
      have e3 : wipe (wipe σ2 vs1) vs = wipe σ vs := by
        rw [← hw]
        exact Off.wipe (l := vs1) ⟨wipe_length σ2 vs1, fun i hi => wipe_get hi⟩ hvs
      rw [e3] at S2
      exact hN e S2 ra q
end DL
namespace DL
open PySem PySem.Spec L2
open Evl (Ex)
theorem lc2_reading {K : PySem.W.Frag} {W : WX} {tg tg1 : Tg} {vs vs1 : List Nat} {tt tt1 te : DEn} {src1 : DSrc} {J : It} {ds : List D} {Fo A1 H1 : Hp} {σ : L2.St} {ρ1 : Slots} {Q : VK} {Dl : Addr} (hsub : ∀ i ∈ tg.slots, i ∈ vs) (hsub1 : ∀ i ∈ tg1.slots, i ∈ vs1) (hvs : ∀ i ∈ vs1, i ∈ vs) (S1 : Sat K Fo A1 H1 σ ρ1) (it : ItD K J A1 ds) (hD : H1 Dl = none)
    (p : Post K W Fo A1 σ (runLc2 vs vs1 tg tt src1 tg1 tt1 te ds (wipeD ρ1 vs) []) Q) :
    ∃ Wv : Nat → Nat → Hp → Prop, (∃ m, Wv 0 m (upd H1 Dl (.lst []))) ∧ ∀ i m H, Wv i m H →
      (J.stop i H ∧ Q (.ref Dl) H) ∨ (J.go i H ∧ ∃ Nx : Hp → Prop, (∀ H', Nx H' → ∃ m', m' < m ∧ Wv (i + 1) m' H') ∧ ∀ x H', J.yld i H x H' → rdG K tg x (wipe σ vs) H' fun σ2 H2 => wipe σ2 vs = wipe σ vs ∧ tB (rd K W0 tt) σ2 H2 fun b H3 =>
        if b = true then rdI K W0 src1 σ2 H3 fun J1 H4 => ∃ W1 : Nat → Nat → Hp → Prop, (∃ m, W1 0 m H4) ∧ ∀ j k H, W1 j k H →
          (J1.stop j H ∧ Nx H) ∨ (J1.go j H ∧ ∃ Nx1 : Hp → Prop, (∀ H', Nx1 H' → ∃ k', k' < k ∧ W1 (j + 1) k' H') ∧ ∀ x H', J1.yld j H x H' → rdG K tg1 x (wipe σ2 vs1) H' fun σ3 H5 => wipe σ3 vs1 = wipe σ2 vs1 ∧ tB (rd K W0 tt1) σ3 H5 fun b H6 =>
            if b = true then rd K W0 te σ3 H6 fun y H7 => ∃ acc, H7 Dl = some (.lst acc) ∧ acc.length < sizeLine ∧ Nx1 (upd H7 Dl (.lst (acc ++ [y]))) else Nx1 H6)
        else Nx H3) := by
  have hF : Fo Dl = none := S1.freeF hD
  refine ⟨fun i m H => m = ds.length - i ∧ i ≤ ds.length ∧ ∃ A' ρ' acc accV, Ex A1 A' ∧ Sat K (upd Fo Dl (.lst accV)) A' H (wipe σ vs) ρ' ∧ RepL K A' accV acc ∧ Post K W Fo A' σ (runLc2 vs vs1 tg tt src1 tg1 tt1 te (ds.drop i) ρ' acc) Q, ?_, fun i m H hW => ?_⟩
  · refine ⟨ds.length, by omega, Nat.zero_le _, A1, _, [], [], Ex.refl _, ?_, .nil, p⟩
    have S2 := (S1.wipe vs).fresh (o := .lst []) hD
    exact S2.lock (S1.freeA hD) upd_same ((S1.wipe vs).apart hD)
  · obtain ⟨rfl, hi, A', ρ', acc, accV, e, S, ra, q⟩ := hW
    by_cases hlt : i < ds.length
    · refine .inr ⟨it.go i H (e.trans S.ex) hlt, fun H' => ∃ A' ρ' acc accV, Ex A1 A' ∧ Sat K (upd Fo Dl (.lst accV)) A' H' (wipe σ vs) ρ' ∧ RepL K A' accV acc ∧ Post K W Fo A' σ (runLc2 vs vs1 tg tt src1 tg1 tt1 te (ds.drop (i + 1)) ρ' acc) Q, fun H' hN => ⟨ds.length - (i + 1), by omega, rfl, hlt, hN⟩, fun x H' hy => ?_⟩
      have hd := List.getElem?_eq_getElem hlt
      obtain ⟨A2, e2, S2, rx⟩ := it.yld i H x H' _ A' _ ρ' _ e S hd hy
      rw [List.drop_eq_getElem_cons hlt] at q
      replace q : Post K W Fo A' σ (match tg.asg ds[i] ρ' with
        | none => .bad
        | some ρ0 => (tt ρ0).noX.bind fun b ρ1 => match b with
          | .bl true => (match src1 ρ1 with
            | .ok ds' ρ2 => (match runLc vs1 tg1 tt1 te ds' (wipeD ρ2 vs1) acc with
              | .ok (.own (.lst acc')) ρ3 => runLc2 vs vs1 tg tt src1 tg1 tt1 te (ds.drop (i + 1)) (wipeD ρ3 vs) acc'
              | _ => .bad)
            | _ => .bad)
          | .bl false => runLc2 vs vs1 tg tt src1 tg1 tt1 te (ds.drop (i + 1)) (wipeD ρ1 vs) acc
          | _ => .bad) Q := q
      cases ha : tg.asg ds[i] ρ' with
      | none => rw [ha] at q; exact q.elim
      | some ρ0 =>
        rw [ha] at q
        dsimp only at q
        refine ⟨_, A2, ρ', ds[i], ρ0, S2, rx, ha, fun σ2 S3 off => ⟨(off.wipe hsub).trans (wipe_wipe σ vs), ?_⟩⟩
        have hw : wipe σ2 vs = wipe σ vs := (off.wipe hsub).trans (wipe_wipe σ vs)
        have back : ∀ {A5 H5 : Hp} {ρ5 : Slots} {FX : Hp}, Sat K FX A5 H5 σ2 ρ5 → Sat K FX A5 H5 (wipe σ vs) (wipeD ρ5 vs) := fun {A5 H5 ρ5 FX} S5 => by
          have := S5.wipe vs
          rw [hw] at this
          exact this
        refine ⟨_, A2, ρ0, S3, blk_step (Post.ext q e2) fun v b A4 H4 ρ4 e4 S4 r4 q4 => ?_⟩
        cases r4 with
        | bl b =>
          cases b with
          | true =>
            refine ⟨true, rfl, iteT ⟨_, A4, ρ4, S4, ?_⟩⟩
            dsimp only at q4
            cases hs : src1 ρ4 with
            | bad => rw [hs] at q4; exact q4.elim
            | exc x ρ5 => rw [hs] at q4; exact q4.elim
            | ok ds' ρ5 =>
              rw [hs] at q4
              intro J1 A5 H5 e5 S5 it1
              refine lc_inner (k := fun acc' ρ3 => runLc2 vs vs1 tg tt src1 tg1 tt1 te (ds.drop (i + 1)) (wipeD ρ3 vs) acc') hsub1 hvs S5 it1 (ra.mn ((e2.trans e4).trans e5)) hw (Post.ext q4 e5) fun {A' H ρ' acc accV} e6 S6 r6 q6 => ?_
              exact ⟨A', wipeD ρ' vs, acc, accV, (((e.trans e2).trans e4).trans e5).trans e6, S6, r6, q6⟩
          | false =>
            refine ⟨false, rfl, iteF ⟨A4, wipeD ρ4 vs, acc, accV, (e.trans e2).trans e4, back S4, ra.mn (e2.trans e4), q4⟩⟩
        | _ => exact q4.elim
    · have ei : i = ds.length := by omega
      refine .inl ⟨it.stop i H (e.trans S.ex) (by omega), ?_⟩
      rw [ei, List.drop_length] at q
      obtain ⟨S', h1, h2, h3⟩ := S.unlock hF
      have S6 : Sat K Fo A' H σ ρ' := S'.unwipe
      refine q _ A' H (Ex.refl _) S6 (.own h1 hF h2 (.lst ra) fun j m q1 q2 => ?_)
      obtain ⟨b, u, e1, _⟩ := S'.own j m q1
      have e3 := (wipe_some e1).1
      rw [q2] at e3; cases e3
      exact h3 j m q1 e1
section
variable {X : Cx} {W : WX} {P : List Nat}
theorem de_lc2 {elt tg iter tg1 iter1 : Expr} {ifs ifs1 : List Expr} {scope : Scope} {own : List (Str × Nat)} {vs1 : List Nat} {pos : Pos} {src src1 : DSrc} {t t1 : Tg} {tt tt1 te : DEn} (hc : X.calm = true) (hN : X.N.Nodup) (hi : DI X W tg iter src) (ok : BlkOk X.N X.env.scope scope own) (hv : ∀ i ∈ vs1, i ∈ own.map (·.2))
    (hg : ∀ (s : Shared) (H : Hp) (C : Addr) (cl : List (Str × Addr)) (fp : List Addr), DG (X.blk s H scope (compEnvC scope cl C X.env) fp) tg t) (ht : ∀ (s : Shared) (H : Hp) (C : Addr) (cl : List (Str × Addr)) (fp : List Addr), PTs (X.blk s H scope (compEnvC scope cl C X.env) fp) ifs (tB (rd X.K W0 tt)))
    (hi1 : ∀ (s : Shared) (H : Hp) (C : Addr) (cl : List (Str × Addr)) (fp : List Addr), DI (X.blk s H scope (compEnvC scope cl C X.env) fp) W0 tg1 iter1 src1)
    (hg1 : ∀ (s : Shared) (H : Hp) (C : Addr) (cl : List (Str × Addr)) (fp : List Addr), DG (X.blk s H scope (compEnvC scope cl C X.env) fp) tg1 t1) (ht1 : ∀ (s : Shared) (H : Hp) (C : Addr) (cl : List (Str × Addr)) (fp : List Addr), PTs (X.blk s H scope (compEnvC scope cl C X.env) fp) ifs1 (tB (rd X.K W0 tt1)))
    (he : ∀ (s : Shared) (H : Hp) (C : Addr) (cl : List (Str × Addr)) (fp : List Addr), DE (X.blk s H scope (compEnvC scope cl C X.env) fp) W0 elt te) (hsub : ∀ i ∈ t.slots, i ∈ own.map (·.2)) (hsub1 : ∀ i ∈ t1.slots, i ∈ vs1) (hs : ∀ x, foldedSetIterable iter X.env x = pure x := by intro _; rfl) (hs1 : ∀ env x, foldedSetIterable iter1 env x = pure x := by intro _ _; rfl) :
    DE X W (.ListComp elt [⟨tg, iter, ifs, 0⟩, ⟨tg1, iter1, ifs1, 0⟩] scope pos) (dLc2 src (own.map (·.2)) vs1 t tt src1 t1 tt1 te) :=
  PE.weak (pe_lc2 (g := rdG X.K t) (tt := tB (rd X.K W0 tt)) (wi1 := rdI X.K W0 src1) (g1 := rdG X.K t1) (tt1 := tB (rd X.K W0 tt1)) (te := rd X.K W0 te) hc hN hi ok hv hg ht hi1 hg1 ht1 he hs hs1) fun σ H Q ⟨Fo, A, ρ, S, p⟩ => by
    refine ⟨Fo, A, ρ, S, ?_⟩
    unfold dLc2 at p
    cases hsr : src ρ with
    | bad => rw [hsr] at p; exact p
    | exc x ρ1 => rw [hsr] at p; exact p
    | ok ds ρ1 => rw [hsr] at p; exact fun J A1 H1 e1 S1 it Dl hD => lc2_reading hsub hsub1 hv S1 it hD (Post.ext p e1)
theorem ds_setLc2 {i : Nat} {y : Str} {py : Pos} {elt tg iter tg1 iter1 : Expr} {ifs ifs1 : List Expr} {scope : Scope} {own : List (Str × Nat)} {vs1 : List Nat} {pos spos : Pos} {src src1 : DSrc} {t t1 : Tg} {tt tt1 te : DEn} (hc : X.calm = true) (hN : X.N.Nodup) (hy : X.N[i]? = some y) (hyl : X.env.scope.names.lookup y = some .local) (hP : i ∉ P)
    (hsw : swapsWith (.ListComp elt [⟨tg, iter, ifs, 0⟩, ⟨tg1, iter1, ifs1, 0⟩] scope pos) (some (.Name y py)) spos.line X.env = pure true) (hi : DI X W tg iter src) (ok : BlkOk X.N X.env.scope scope own) (hv : ∀ i ∈ vs1, i ∈ own.map (·.2))
    (hg : ∀ (s : Shared) (H : Hp) (C : Addr) (cl : List (Str × Addr)) (fp : List Addr), DG (X.blk s H scope (compEnvC scope cl C X.env) fp) tg t) (ht : ∀ (s : Shared) (H : Hp) (C : Addr) (cl : List (Str × Addr)) (fp : List Addr), PTs (X.blk s H scope (compEnvC scope cl C X.env) fp) ifs (tB (rd X.K W0 tt)))
    (hi1 : ∀ (s : Shared) (H : Hp) (C : Addr) (cl : List (Str × Addr)) (fp : List Addr), DI (X.blk s H scope (compEnvC scope cl C X.env) fp) W0 tg1 iter1 src1)
    (hg1 : ∀ (s : Shared) (H : Hp) (C : Addr) (cl : List (Str × Addr)) (fp : List Addr), DG (X.blk s H scope (compEnvC scope cl C X.env) fp) tg1 t1) (ht1 : ∀ (s : Shared) (H : Hp) (C : Addr) (cl : List (Str × Addr)) (fp : List Addr), PTs (X.blk s H scope (compEnvC scope cl C X.env) fp) ifs1 (tB (rd X.K W0 tt1)))
    (he : ∀ (s : Shared) (H : Hp) (C : Addr) (cl : List (Str × Addr)) (fp : List Addr), DE (X.blk s H scope (compEnvC scope cl C X.env) fp) W0 elt te) (hsub : ∀ i ∈ t.slots, i ∈ own.map (·.2)) (hsub1 : ∀ i ∈ t1.slots, i ∈ vs1) (hs : ∀ x, foldedSetIterable iter X.env x = pure x := by intro _; rfl) (hs1 : ∀ env x, foldedSetIterable iter1 env x = pure x := by intro _ _; rfl) :
    DS X W P (.Assign [.Name y py] (.ListComp elt [⟨tg, iter, ifs, 0⟩, ⟨tg1, iter1, ifs1, 0⟩] scope pos) spos) (sSet i (dLc2 src (own.map (·.2)) vs1 t tt src1 t1 tt1 te)) :=
  PS.weak (ps_setLc2 (g := rdG X.K t) (tt := tB (rd X.K W0 tt)) (wi1 := rdI X.K W0 src1) (g1 := rdG X.K t1) (tt1 := tB (rd X.K W0 tt1)) (te := rd X.K W0 te) hc hN hy hyl hsw hi ok hv hg ht hi1 hg1 ht1 he hs hs1) fun D σ H ⟨Fo, A, ρ, S, p⟩ => by
    have p' : Post X.K W Fo A σ (dLc2 src (own.map (·.2)) vs1 t tt src1 t1 tt1 te ρ) fun v H' => gName i v σ H' D.nx := post_then p fun v r A' H' ρ' e S' rv q => q _ A' H' (Keep.set hP) (Ex.refl _) (S'.setR rv)
    refine ⟨Fo, A, ρ, S, ?_⟩
    unfold dLc2 at p'
    cases hsr : src ρ with
    | bad => rw [hsr] at p'; exact p'
    | exc x ρ1 => rw [hsr] at p'; exact p'
    | ok ds ρ1 => rw [hsr] at p'; exact fun J A1 H1 e1 S1 it Dl hD => lc2_reading hsub hsub1 hv S1 it hD (Post.ext p' e1)
end
end DL

set_option maxRecDepth 100000
set_option maxHeartbeats 2000000
/-! DL20: a module's lists of texts, instances called. -/
namespace DL
open PySem PySem.Spec L2
open Evl (Ex)
open He (ga ma)
/-! ### a module's list of texts -/
theorem strsV_of : ∀ {vs : List Value} {zs : List String}, strsV vs zs = true → Vals (zs.map fun z => V.str (Str.ofString z)) vs
  | [], [], _ => .nil
  | .str y t :: vs, z :: zs, h => by
    obtain ⟨h1, h2⟩ := Bool.and_eq_true_iff.mp (show (decide (y = Str.ofString z) && strsV vs zs) = true from h)
    have := of_decide_eq_true h1
    subst this
    exact .cons ⟨t, rfl⟩ (strsV_of h2)
theorem RepL.strV {K : PySem.W.Frag} {A : Hp} : ∀ zs : List String, RepL K A (zs.map fun z => V.str (Str.ofString z)) (zs.map fun z => D.str (Str.ofString z))
  | [] => .nil
  | z :: zs => .cons (.str _) (RepL.strV zs)
theorem lst_rep {K : PySem.W.Frag} {a : Addr} {o : Obj} {zs : List String} (e : K.lookup a = some o) (h : lstO o zs = true) (A : Hp) : Rep K A (.ref a) (.fix (zs.map fun z => .str (Str.ofString z))) := by
  obtain ⟨cls, dict, data, sl⟩ := o
  unfold lstO at h
  split at h
  · rename_i c its n sl' q
    cases q
    obtain ⟨h1, h⟩ := Bool.and_eq_true_iff.mp h
    obtain ⟨h2, h3⟩ := Bool.and_eq_true_iff.mp h
    have := of_decide_eq_true h1
    subst this
    exact .fix (.inr ⟨_, its, n, e, rfl, rfl, rfl, of_decide_eq_true h2, strsV_of h3⟩) (RepL.strV zs)
  · cases h
section
variable {fa : List Fx} {fn : List Dx} {K : PySem.W.Frag} {mg : Str → Option Value}
theorem TT.lst (T : TT fa fn K mg) (i : Nat) {x : String} {zs : List String} (h : fa[i]? = some (.lst x zs) := by rfl) : ∃ a, mg (Str.ofString x) = some (.ref a) ∧ ∀ A, Rep K A (.ref a) (.fix (zs.map fun z => .str (Str.ofString z))) := by
  obtain ⟨h0, X, G⟩ := T.h
  have c := T.fact i h
  unfold Fx.ok at c
  dsimp only at c
  split at c
  · rename_i a e
    split at c
    · rename_i o e2
      exact ⟨a, PySem.W.mg_of X G e, fun A => lst_rep e2 c A⟩
    · cases c
  · cases c
theorem TT.fnIn (T : TT fa fn K mg) (i : Nat) {d : Dx} (h : fn[i]? = some d := by rfl) : PySem.W.fnIn K (d.at_.ad K) = true := by
  obtain ⟨fd, F⟩ := T.def_ i h
  obtain ⟨oc, od, dV, kV, doc, pm, an, cdv, ct, osl, e1, e2, _⟩ := F.ex
  unfold PySem.W.fnIn
  rw [e2]
end
section
variable {X : Cx} {W : WX}
theorem de_globL {x : Str} {zs : List String} {pos : Pos} (hg : Gl X x) (hm : ∃ a, X.mg x = some (.ref a) ∧ ∀ A, Rep X.K A (.ref a) (.fix (zs.map fun z => .str (Str.ofString z)))) (hd : (x == ("__debug__" : Str)) = false := by decide) : DE X W (.Name x pos) (dC (.fix (zs.map fun z => .str (Str.ofString z)))) := by
  obtain ⟨a, h, r⟩ := hm
  exact PE.weak (pe_glob hg h (v := .ref a) rfl hd) fun σ H Q ⟨Fo, A, ρ, S, p⟩ => Post.now p S (r A)
end
/-! ### o(e, ..), o an instance -/
structure CallI (P : Program) (w : World) (K : PySem.W.Frag) (mg : Str → Option Value) (base : Heap) (C : String) (k n : Nat) (c : DEn) : Prop where
  cl : Cls K (He.ga K (Str.ofString C))
  ok : ∃ g, PySem.W.findIn K (.ref (He.ga K (Str.ofString C))) "__call__" = some (some (.ref g)) ∧ PySem.W.isFn K (.ref g) = true ∧ PySem.W.fnIn K g = true ∧ FdOk P w K mg base k g n c
theorem f_calli {P : Program} {w : World} {K : PySem.W.Frag} {mg : Str → Option Value} {base : Heap} {C : String} {k n : Nat} {e : DEn} (c : (Fx.cls C).ok K = true) (d : (Fx.own C "__call__").ok K = true) (F : FdOk P w K mg base k (ma K (cad K C) (Str.ofString "__call__")) n e) (fi : PySem.W.fnIn K (ma K (cad K C) (Str.ofString "__call__")) = true) : CallI P w K mg base C k n e := by
  obtain ⟨c1, c2⟩ := Bool.and_eq_true_iff.mp d
  obtain ⟨c2, c3⟩ := Bool.and_eq_true_iff.mp c2
  exact ⟨f_cls c, _, of_decide_eq_true c1, c2, fi, F⟩
def dInst (C : String) (c : DEn) (df : DEn) (args : List Arg) : DEn := fun ρ => (df ρ).bind fun x ρ1 => if insIs C x then (match runArgs args ρ1 with
  | .ok as ρ2 => callAt c (.d x :: as) ρ2
  | .exc z ρ2 => .exc z ρ2
  | .bad => .bad) else .bad
section
variable {X : Cx} {W : WX} {pos : Pos} {e fe : Expr} {es : List Expr} {args : List Arg} {k n : Nat} {c df : DEn} {C : String}
theorem de_inst (O : CallI X.prog X.w X.K X.mg X.base C k n c) (hr : Room k X.A) (tk : Takes X W) (hf : DE X W fe df) (ha : DA X W (e :: es) args) (hn : args.length + 1 = n)
    (ht : eval (.Call fe (e :: es) [] pos) X.env = (do callWith pos (← eval fe X.env) [] (backTo pos (starEach (e :: es) X.env)) (backToKw pos (keywordEach [] X.env))) := by rfl)
    (he : starEach (e :: es) X.env = (false, eval e X.env) :: starEach es X.env := by rfl) (hpl : (backTo pos (starEach es X.env)).any (·.1) = false := by rfl) : DE X W (.Call fe (e :: es) [] pos) (dInst C c df args) := by
  obtain ⟨cl, g, h1, h2, h3, fd, ps, F, hb, hk⟩ := O
  refine ⟨fun pins s σ H Q I ⟨Fo, A, ρ, S, p⟩ => ?_⟩
  have h' : rd X.K W df σ H fun v H1 => ∃ a dx fs, v = .ref a ∧ H1 a = some (.ins (He.ga X.K (Str.ofString C)) dx fs) ∧ rdA X.K W args σ H1 fun vs H2 => H2 a = some (.ins (He.ga X.K (Str.ofString C)) dx fs) ∧ spD X.K n c (.ref a :: vs) H2 Q (WE W σ) := ⟨Fo, A, ρ, S, post_bind p fun v x A1 H1 ρ1 e1 S1 r1 p1 => by
    obtain ⟨hi, p1⟩ := ifB (P := fun z : ERes => Post X.K W Fo A1 σ z Q) p1 (fun z => z)
    obtain ⟨a, dx, fs, rfl, hA⟩ := insIs_of r1 hi
    refine ⟨a, dx, fs, rfl, S1.ex _ _ hA, Fo, A1, ρ1, S1, ?_⟩
    cases ha' : runArgs args ρ1 with
    | bad => rw [ha'] at p1; exact p1
    | exc z ρ2 => rw [ha'] at p1; exact p1
    | ok as ρ2 =>
      rw [ha'] at p1
      intro vs A2 H2 e2 S2 ra
      exact ⟨S2.ex _ _ (e2 _ _ hA), sp_call S2 (.d (r1.mn e2) ra) (by rw [List.length_cons, runArgs_len ha']; exact hn) (Post.ext p1 e2)⟩⟩
  refine PyProof.Rows.Call_ (thn (hf.run pins s σ H _ I h') fun u s1 ⟨v, H1, I1, rv, a, dx, fs, ev, hA, h2'⟩ => ?_) ht
  subst ev
  cases rv
  refine StX.callO_with (thn (ha.run pos pins s1 σ H1 _ I1 h2') fun us s2 ⟨vs, H2, I2, r2, hH, q⟩ => ?_) he hpl
  obtain ⟨mA, O', _⟩ := ins_get I2.hok hH
  obtain ⟨od, J, _⟩ := O'.look
  refine ⟨⟨_, _, _, J, rfl⟩, ?_⟩
  have r3 : Vals (.ref a :: vs) (.ref a :: us) := .cons rfl r2
  have hl : (Value.ref a :: us).length = ps.length := by rw [← r3.length]; exact F.len _ _ _ _ q
  have b := hb s2 (Value.ref a :: us) I2.kIn (by rw [List.append_nil]; exact hl)
  rw [List.append_nil] at b
  refine wpAny_call (PySem.W.kco_code I2.kIn J rfl h1 h2 h3 (codeAny_mono (F.run X.A X.stack s2 H2 ⟨Value.ref a :: us, []⟩ (Value.ref a :: us) (.ref a :: vs) Q (WE W σ) hr I2.env0 b r3 q) fun r s' hq => ?_))
  cases r with
  | error e => exact passAt tk σ pins H2 s2 e s' I2 hq
  | ok fl =>
    cases fl with
    | ret u => exact I2.after hq
    | next => exact False.elim hq
    | brk => exact False.elim hq
    | cont => exact False.elim hq
end
end DL

set_option maxRecDepth 100000
set_option maxHeartbeats 2000000
/-! DL21: the greatest and the least of a list of tuples of ints. -/
namespace DL
open PySem PySem.Spec
theorem not_one {b n : Nat} (h : b < n) : b ∉ [n] := fun q => absurd (List.mem_singleton.mp q) (Nat.ne_of_lt h)
section
variable {prog : Program} {w : World} {A : Around} {R : Result → Shared → Prop} {I Sx : Addr} {fp wr : List Addr} {n : Nat} {P : Nat → Value → Prop} {St : Nat → Heap → Prop} {Hd : Heap → Prop} {bt : Nat → Nat → Bool}
def maxCmp (prog : Program) (w : World) (B : Around) (Hd : Heap → Prop) (P : Nat → Value → Prop) (bt : Nat → Nat → Bool) : Prop :=
  ∀ (i j : Nat) (x y : Value) (z : Shared) (Qz Ez : Value → Shared → Prop), Hd z.heap → P i x → P j y → Qz (.bool (bt i j)) z → wpAny (model prog w) B (richCompare .Gt x y) Qz Ez z
theorem max_turns (Wk : Walks prog w A.in1 I fp wr n P St) (hHd : ∀ h h' : Heap, (∀ b o, b ∉ wr → b ≠ Sx → h.get? b = some o → h'.get? b = some o) → Hd h → Hd h') (cmp : maxCmp prog w A.in1 Hd P bt) (far : Sx ∉ fp) (m : Nat) :
    ∀ (j : Nat) (s : Shared) (best : Value) (cap : Nat), n - (j + 1) = m → j + 1 ≤ n → St (j + 1) s.heap → Hd s.heap → P (argBest bt j) best →
    s.heap.get? Sx = some { cls := .type "list", dict := none, data := .seq #[best, best] cap, slots := #[] } →
    (∀ v h' tk, P (argBest bt (n - 1)) v → (∀ b o, b ∉ wr → b ≠ Sx → s.heap.get? b = some o → h'.get? b = some o) → R (.ok (.ret v)) { s with heap := h', toks := tk }) →
    codeAny (model prog w) A (.builtin "max.loop" ⟨[.ref I, .none, .ref Sx], []⟩) R s := by
  have notW : Sx ∉ wr := fun h => far (Wk.sub _ h)
  have nm : (toString "max" ++ toString ".loop" : String) = "max.loop" := by decide
  induction m with
  | zero =>
    intro j s best cap e1 e2 st hd hp hS fin
    have eN : n = j + 1 := by omega
    refine codeAny_builtin F.entry_max_loop ?_
    rw [Around.under_plainId F.plain_max_loop _]
    refine wpAny_bind (m := seqItems? (.ref Sx)) (wpAny_seqItems hS rfl ?_)
    refine wpAny_bind (wpAny_tryCatch (Wk.done s _ _ (by rw [eN]; exact st) fun h1 t1 k1 => ?_))
    have hS1 := k1 Sx _ notW hS
    refine wpAny_bind (m := updateSeq Sx (fun _ => #[])) ?_
    refine wpAny_updateSeq hS1 rfl (wpAny_bind (wpAny_letGo (wpAny_pure ?_)))
    exact fin best _ t1 (by rw [show n - 1 = j by omega]; exact hp) fun b o b1 b2 e => (Heap.get?_update_other _ _ (Ne.symm b2)).trans (k1 b o b1 e)
  | succ m ih =>
    intro j s best cap e1 e2 st hd hp hS fin
    have lt : j + 1 < n := by omega
    refine codeAny_builtin F.entry_max_loop ?_
    rw [Around.under_plainId F.plain_max_loop _]
    refine wpAny_bind (m := seqItems? (.ref Sx)) (wpAny_seqItems hS rfl ?_)
    refine wpAny_bind (wpAny_tryCatch (Wk.item (j + 1) s _ _ lt st fun v h1 t1 hv st1 k1 => ?_))
    have hS1 := k1 Sx _ notW hS
    have hd1 : Hd h1 := hHd _ _ (fun b o b1 _ e => k1 b o b1 e) hd
    show wpAny _ _ (tryCatch (holding [v, v] (richCompare .Gt v best >>= _)) _ >>= _) _ _ _
    refine wpAny_bind (wpAny_tryCatch (wpAny_holding (wpAny_bind (cmp (j + 1) (argBest bt j) v best _ _ _ hd1 hv hp ?_))))
    refine wpAny_bind (wpAny_holding (wpAny_truthy_bool (wpAny_bind (wpAny_letGo (wpAny_pure ?_)))))
    by_cases hb : bt (j + 1) (argBest bt j) = true
    · rw [if_pos hb]
      refine wpAny_bind (wpAny_updateSeq hS1 rfl (wpAny_bind (wpAny_letGo ?_)))
      rw [nm]
      have up : ∀ (f : Obj → Obj) (b : Addr) (o : Obj), b ≠ Sx → h1.get? b = some o → (h1.update Sx f).get? b = some o := fun f b o nb e => (Heap.get?_update_other _ _ (Ne.symm nb)).trans e
      refine wpAny_pure ⟨plainId_quiet F.plain_max_loop _, ih (j + 1) _ v _ (by omega) lt (Wk.frame _ _ _ st1 fun b hb o e => up _ b o (fun q => far (q ▸ hb)) e) (hHd _ _ (fun b o _ b2 e => up _ b o b2 e) hd1) (by rw [argBest, if_pos hb]; exact hv) (Heap.get?_update_self _ hS1 rfl) fun v2 h2 t2 p2 k2 => ?_⟩
      exact fin v2 h2 t2 p2 fun b o b1 b2 e => k2 b o b1 b2 (up _ b o b2 (k1 b o b1 e))
    · rw [if_neg hb]
      refine wpAny_bind (wpAny_letGo ?_)
      rw [nm]
      refine wpAny_pure ⟨plainId_quiet F.plain_max_loop _, ih (j + 1) _ best cap (by omega) lt st1 hd1 (by rw [argBest, if_neg hb]; exact hp) hS1 fun v2 h2 t2 p2 k2 => ?_⟩
      exact fin v2 h2 t2 p2 fun b o b1 b2 e => k2 b o b1 b2 (k1 b o b1 e)
theorem max_first (Wk : Walks prog w A.in1 I fp wr n P St) (hHd : ∀ h h' : Heap, (∀ b o, b ∉ wr → b ≠ Sx → h.get? b = some o → h'.get? b = some o) → Hd h → Hd h') (cmp : maxCmp prog w A.in1 Hd P bt) (far : Sx ∉ fp) (pos : 0 < n) {s : Shared} {cap : Nat} (st : St 0 s.heap) (hd : Hd s.heap)
    (hS : s.heap.get? Sx = some { cls := .type "list", dict := none, data := .seq #[] cap, slots := #[] })
    (fin : ∀ v h' tk, P (argBest bt (n - 1)) v → (∀ b o, b ∉ wr → b ≠ Sx → s.heap.get? b = some o → h'.get? b = some o) → R (.ok (.ret v)) { s with heap := h', toks := tk }) :
    codeAny (model prog w) A (.builtin "max.loop" ⟨[.ref I, .none, .ref Sx], []⟩) R s := by
  have notW : Sx ∉ wr := fun h => far (Wk.sub _ h)
  have nm : (toString "max" ++ toString ".loop" : String) = "max.loop" := by decide
  refine codeAny_builtin F.entry_max_loop ?_
  rw [Around.under_plainId F.plain_max_loop _]
  refine wpAny_bind (m := seqItems? (.ref Sx)) (wpAny_seqItems hS rfl ?_)
  refine wpAny_bind (wpAny_tryCatch (Wk.item 0 s _ _ pos st fun v h1 t1 hv st1 k1 => ?_))
  have hS1 := k1 Sx _ notW hS
  refine wpAny_bind (m := updateSeq Sx (fun _ => #[v, v])) (wpAny_updateSeq hS1 rfl ?_)
  rw [nm]
  have up : ∀ (f : Obj → Obj) (b : Addr) (o : Obj), b ≠ Sx → h1.get? b = some o → (h1.update Sx f).get? b = some o := fun f b o nb e => (Heap.get?_update_other _ _ (Ne.symm nb)).trans e
  refine wpAny_pure ⟨plainId_quiet F.plain_max_loop _, max_turns Wk hHd cmp far _ 0 _ v _ rfl pos (Wk.frame _ _ _ st1 fun b hb o e => up _ b o (fun q => far (q ▸ hb)) e) (hHd _ _ (fun b o b1 b2 e => up _ b o b2 (k1 b o b1 e)) hd) hv (Heap.get?_update_self _ hS1 rfl) fun v2 h2 t2 p2 k2 => ?_⟩
  exact fin v2 h2 t2 p2 fun b o b1 b2 e => k2 b o b1 b2 (up _ b o b2 (k1 b o b1 e))
end
section
variable {prog : Program} {w : World} {A : Around} {E : Value → Shared → Prop} {s : Shared}
/-- of the items of a list, the heap's things that they speak of kept -/
theorem max_list {l : Addr} {items : Array Value} {bt : Nat → Nat → Bool} {Hd : Heap → Prop} {Q : Value → Shared → Prop} (hh : A.handled = none) (hl : s.heap.IsList l items) (pos : 0 < items.size)
    (hHd : ∀ h h' : Heap, (∀ b o, b < s.heap.objs.size → h.get? b = some o → h'.get? b = some o) → Hd h → Hd h') (hd : Hd s.heap) (cmp : maxCmp prog w A.in1 Hd (fun i v => items[i]? = some v) bt)
    (fin : ∀ v h' tk, items[argBest bt (items.size - 1)]? = some v → (∀ b o, s.heap.get? b = some o → h'.get? b = some o) → Q v { s with heap := h', toks := tk }) :
    wpAny (model prog w) A (call (.builtin "max") [.ref l]) Q E s := by
  have nm : (toString "max" ++ toString ".loop" : String) = "max.loop" := by decide
  have lt : l < s.heap.objs.size := by obtain ⟨_, e, _⟩ := hl; exact Heap.lt_size e
  refine call_function_tree F.kind_max F.plain_max F.entry_max (F.args_max1 _) ?_
  refine wpAny_bind (wpAny_of_eq (show Builtin.Builtins.bindParams "max" ["key", "default"] 0 ⟨[], []⟩ = pure [none, none] from rfl) ?_)
  refine wpAny_bind (wpAny_pure ?_)
  refine wpAny_bind (m := pyIter (.ref l)) (wpAny_pyIter_list hl ?_)
  refine wpAny_bind (wpAny_newObj_type ?_)
  rw [nm]
  have k1 : ∀ b o, s.heap.get? b = some o → (s.heap.push { cls := .type "list_iterator", data := .fields #[.ref l, .int 0 0] }).get? b = some o := fun b o e => Heap.get?_push_of_some _ e
  have hI : (s.heap.push { cls := .type "list_iterator", data := .fields #[.ref l, .int 0 0] }).IsListIter s.heap.objs.size l 0 := ⟨_, Heap.get?_push_size _ rfl, rfl, rfl⟩
  have sz : (s.heap.push { cls := .type "list_iterator", data := .fields #[.ref l, .int 0 0] }).objs.size = s.heap.objs.size + 1 := Heap.size_push _ _
  have Wk := Walks.list (prog := prog) (w := w) (A := A.in1) hh s.heap.objs.size l (Nat.ne_of_lt lt) items
  refine wpAny_pure ⟨plainId_quiet F.plain_max_loop _, max_first (Hd := Hd) (bt := bt) Wk (fun h h' k => hHd h h' fun b o hb => k b o (not_one hb) (by rw [sz]; exact Nat.ne_of_lt (Nat.lt_succ_of_lt hb))) cmp ?_ pos (Wk.frame _ _ _ ⟨hI, hl.push _⟩ fun b _ o e => Heap.get?_push_of_some _ e) (hHd _ _ (fun b o _ e => e) ?_) (Heap.get?_push_size _ rfl) fun v h' tk hv k => ?_⟩
  · rw [sz]
    intro q
    rcases List.mem_cons.mp q with q | q
    · exact absurd q (Nat.succ_ne_self _)
    · exact absurd (List.mem_singleton.mp q) (Nat.ne_of_gt (Nat.lt_succ_of_lt lt))
  · exact hHd _ _ (fun b o _ e => Heap.get?_push_of_some _ (k1 b o e)) hd
  · exact fin v h' tk hv fun b o e => by
      have hb := Heap.lt_size e
      exact k b o (not_one hb) (by rw [sz]; exact Nat.ne_of_lt (Nat.lt_succ_of_lt hb)) (Heap.get?_push_of_some _ (k1 b o e))
end
section
variable {prog : Program} {w : World} {A : Around} {R : Result → Shared → Prop} {I Sx : Addr} {fp wr : List Addr} {n : Nat} {P : Nat → Value → Prop} {St : Nat → Heap → Prop} {Hd : Heap → Prop} {bt : Nat → Nat → Bool}
def minCmp (prog : Program) (w : World) (B : Around) (Hd : Heap → Prop) (P : Nat → Value → Prop) (bt : Nat → Nat → Bool) : Prop :=
  ∀ (i j : Nat) (x y : Value) (z : Shared) (Qz Ez : Value → Shared → Prop), Hd z.heap → P i x → P j y → Qz (.bool (bt i j)) z → wpAny (model prog w) B (richCompare .Lt x y) Qz Ez z
theorem min_turns (Wk : Walks prog w A.in1 I fp wr n P St) (hHd : ∀ h h' : Heap, (∀ b o, b ∉ wr → b ≠ Sx → h.get? b = some o → h'.get? b = some o) → Hd h → Hd h') (cmp : minCmp prog w A.in1 Hd P bt) (far : Sx ∉ fp) (m : Nat) :
    ∀ (j : Nat) (s : Shared) (best : Value) (cap : Nat), n - (j + 1) = m → j + 1 ≤ n → St (j + 1) s.heap → Hd s.heap → P (argBest bt j) best →
    s.heap.get? Sx = some { cls := .type "list", dict := none, data := .seq #[best, best] cap, slots := #[] } →
    (∀ v h' tk, P (argBest bt (n - 1)) v → (∀ b o, b ∉ wr → b ≠ Sx → s.heap.get? b = some o → h'.get? b = some o) → R (.ok (.ret v)) { s with heap := h', toks := tk }) →
    codeAny (model prog w) A (.builtin "min.loop" ⟨[.ref I, .none, .ref Sx], []⟩) R s := by
  have notW : Sx ∉ wr := fun h => far (Wk.sub _ h)
  have nm : (toString "min" ++ toString ".loop" : String) = "min.loop" := by decide
  induction m with
  | zero =>
    intro j s best cap e1 e2 st hd hp hS fin
    have eN : n = j + 1 := by omega
    refine codeAny_builtin F.entry_min_loop ?_
    rw [Around.under_plainId F.plain_min_loop _]
    refine wpAny_bind (m := seqItems? (.ref Sx)) (wpAny_seqItems hS rfl ?_)
    refine wpAny_bind (wpAny_tryCatch (Wk.done s _ _ (by rw [eN]; exact st) fun h1 t1 k1 => ?_))
    have hS1 := k1 Sx _ notW hS
    refine wpAny_bind (m := updateSeq Sx (fun _ => #[])) ?_
    refine wpAny_updateSeq hS1 rfl (wpAny_bind (wpAny_letGo (wpAny_pure ?_)))
    exact fin best _ t1 (by rw [show n - 1 = j by omega]; exact hp) fun b o b1 b2 e => (Heap.get?_update_other _ _ (Ne.symm b2)).trans (k1 b o b1 e)
  | succ m ih =>
    intro j s best cap e1 e2 st hd hp hS fin
    have lt : j + 1 < n := by omega
    refine codeAny_builtin F.entry_min_loop ?_
    rw [Around.under_plainId F.plain_min_loop _]
    refine wpAny_bind (m := seqItems? (.ref Sx)) (wpAny_seqItems hS rfl ?_)
    refine wpAny_bind (wpAny_tryCatch (Wk.item (j + 1) s _ _ lt st fun v h1 t1 hv st1 k1 => ?_))
    have hS1 := k1 Sx _ notW hS
    have hd1 : Hd h1 := hHd _ _ (fun b o b1 _ e => k1 b o b1 e) hd
    show wpAny _ _ (tryCatch (holding [v, v] (richCompare .Lt v best >>= _)) _ >>= _) _ _ _
    refine wpAny_bind (wpAny_tryCatch (wpAny_holding (wpAny_bind (cmp (j + 1) (argBest bt j) v best _ _ _ hd1 hv hp ?_))))
    refine wpAny_bind (wpAny_holding (wpAny_truthy_bool (wpAny_bind (wpAny_letGo (wpAny_pure ?_)))))
    by_cases hb : bt (j + 1) (argBest bt j) = true
    · rw [if_pos hb]
      refine wpAny_bind (wpAny_updateSeq hS1 rfl (wpAny_bind (wpAny_letGo ?_)))
      rw [nm]
      have up : ∀ (f : Obj → Obj) (b : Addr) (o : Obj), b ≠ Sx → h1.get? b = some o → (h1.update Sx f).get? b = some o := fun f b o nb e => (Heap.get?_update_other _ _ (Ne.symm nb)).trans e
      refine wpAny_pure ⟨plainId_quiet F.plain_min_loop _, ih (j + 1) _ v _ (by omega) lt (Wk.frame _ _ _ st1 fun b hb o e => up _ b o (fun q => far (q ▸ hb)) e) (hHd _ _ (fun b o _ b2 e => up _ b o b2 e) hd1) (by rw [argBest, if_pos hb]; exact hv) (Heap.get?_update_self _ hS1 rfl) fun v2 h2 t2 p2 k2 => ?_⟩
      exact fin v2 h2 t2 p2 fun b o b1 b2 e => k2 b o b1 b2 (up _ b o b2 (k1 b o b1 e))
    · rw [if_neg hb]
      refine wpAny_bind (wpAny_letGo ?_)
      rw [nm]
      refine wpAny_pure ⟨plainId_quiet F.plain_min_loop _, ih (j + 1) _ best cap (by omega) lt st1 hd1 (by rw [argBest, if_neg hb]; exact hp) hS1 fun v2 h2 t2 p2 k2 => ?_⟩
      exact fin v2 h2 t2 p2 fun b o b1 b2 e => k2 b o b1 b2 (k1 b o b1 e)
theorem min_first (Wk : Walks prog w A.in1 I fp wr n P St) (hHd : ∀ h h' : Heap, (∀ b o, b ∉ wr → b ≠ Sx → h.get? b = some o → h'.get? b = some o) → Hd h → Hd h') (cmp : minCmp prog w A.in1 Hd P bt) (far : Sx ∉ fp) (pos : 0 < n) {s : Shared} {cap : Nat} (st : St 0 s.heap) (hd : Hd s.heap)
    (hS : s.heap.get? Sx = some { cls := .type "list", dict := none, data := .seq #[] cap, slots := #[] })
    (fin : ∀ v h' tk, P (argBest bt (n - 1)) v → (∀ b o, b ∉ wr → b ≠ Sx → s.heap.get? b = some o → h'.get? b = some o) → R (.ok (.ret v)) { s with heap := h', toks := tk }) :
    codeAny (model prog w) A (.builtin "min.loop" ⟨[.ref I, .none, .ref Sx], []⟩) R s := by
  have notW : Sx ∉ wr := fun h => far (Wk.sub _ h)
  have nm : (toString "min" ++ toString ".loop" : String) = "min.loop" := by decide
  refine codeAny_builtin F.entry_min_loop ?_
  rw [Around.under_plainId F.plain_min_loop _]
  refine wpAny_bind (m := seqItems? (.ref Sx)) (wpAny_seqItems hS rfl ?_)
  refine wpAny_bind (wpAny_tryCatch (Wk.item 0 s _ _ pos st fun v h1 t1 hv st1 k1 => ?_))
  have hS1 := k1 Sx _ notW hS
  refine wpAny_bind (m := updateSeq Sx (fun _ => #[v, v])) (wpAny_updateSeq hS1 rfl ?_)
  rw [nm]
  have up : ∀ (f : Obj → Obj) (b : Addr) (o : Obj), b ≠ Sx → h1.get? b = some o → (h1.update Sx f).get? b = some o := fun f b o nb e => (Heap.get?_update_other _ _ (Ne.symm nb)).trans e
  refine wpAny_pure ⟨plainId_quiet F.plain_min_loop _, min_turns Wk hHd cmp far _ 0 _ v _ rfl pos (Wk.frame _ _ _ st1 fun b hb o e => up _ b o (fun q => far (q ▸ hb)) e) (hHd _ _ (fun b o b1 b2 e => up _ b o b2 (k1 b o b1 e)) hd) hv (Heap.get?_update_self _ hS1 rfl) fun v2 h2 t2 p2 k2 => ?_⟩
  exact fin v2 h2 t2 p2 fun b o b1 b2 e => k2 b o b1 b2 (up _ b o b2 (k1 b o b1 e))
end
section
variable {prog : Program} {w : World} {A : Around} {E : Value → Shared → Prop} {s : Shared}
/-- of the items of a list, the heap's things that they speak of kept -/
theorem min_list {l : Addr} {items : Array Value} {bt : Nat → Nat → Bool} {Hd : Heap → Prop} {Q : Value → Shared → Prop} (hh : A.handled = none) (hl : s.heap.IsList l items) (pos : 0 < items.size)
    (hHd : ∀ h h' : Heap, (∀ b o, b < s.heap.objs.size → h.get? b = some o → h'.get? b = some o) → Hd h → Hd h') (hd : Hd s.heap) (cmp : minCmp prog w A.in1 Hd (fun i v => items[i]? = some v) bt)
    (fin : ∀ v h' tk, items[argBest bt (items.size - 1)]? = some v → (∀ b o, s.heap.get? b = some o → h'.get? b = some o) → Q v { s with heap := h', toks := tk }) :
    wpAny (model prog w) A (call (.builtin "min") [.ref l]) Q E s := by
  have nm : (toString "min" ++ toString ".loop" : String) = "min.loop" := by decide
  have lt : l < s.heap.objs.size := by obtain ⟨_, e, _⟩ := hl; exact Heap.lt_size e
  refine call_function_tree F.kind_min F.plain_min F.entry_min (F.args_min1 _) ?_
  refine wpAny_bind (wpAny_of_eq (show Builtin.Builtins.bindParams "min" ["key", "default"] 0 ⟨[], []⟩ = pure [none, none] from rfl) ?_)
  refine wpAny_bind (wpAny_pure ?_)
  refine wpAny_bind (m := pyIter (.ref l)) (wpAny_pyIter_list hl ?_)
  refine wpAny_bind (wpAny_newObj_type ?_)
  rw [nm]
  have k1 : ∀ b o, s.heap.get? b = some o → (s.heap.push { cls := .type "list_iterator", data := .fields #[.ref l, .int 0 0] }).get? b = some o := fun b o e => Heap.get?_push_of_some _ e
  have hI : (s.heap.push { cls := .type "list_iterator", data := .fields #[.ref l, .int 0 0] }).IsListIter s.heap.objs.size l 0 := ⟨_, Heap.get?_push_size _ rfl, rfl, rfl⟩
  have sz : (s.heap.push { cls := .type "list_iterator", data := .fields #[.ref l, .int 0 0] }).objs.size = s.heap.objs.size + 1 := Heap.size_push _ _
  have Wk := Walks.list (prog := prog) (w := w) (A := A.in1) hh s.heap.objs.size l (Nat.ne_of_lt lt) items
  refine wpAny_pure ⟨plainId_quiet F.plain_min_loop _, min_first (Hd := Hd) (bt := bt) Wk (fun h h' k => hHd h h' fun b o hb => k b o (not_one hb) (by rw [sz]; exact Nat.ne_of_lt (Nat.lt_succ_of_lt hb))) cmp ?_ pos (Wk.frame _ _ _ ⟨hI, hl.push _⟩ fun b _ o e => Heap.get?_push_of_some _ e) (hHd _ _ (fun b o _ e => e) ?_) (Heap.get?_push_size _ rfl) fun v h' tk hv k => ?_⟩
  · rw [sz]
    intro q
    rcases List.mem_cons.mp q with q | q
    · exact absurd q (Nat.succ_ne_self _)
    · exact absurd (List.mem_singleton.mp q) (Nat.ne_of_gt (Nat.lt_succ_of_lt lt))
  · exact hHd _ _ (fun b o _ e => Heap.get?_push_of_some _ (k1 b o e)) hd
  · exact fin v h' tk hv fun b o e => by
      have hb := Heap.lt_size e
      exact k b o (not_one hb) (by rw [sz]; exact Nat.ne_of_lt (Nat.lt_succ_of_lt hb)) (Heap.get?_push_of_some _ (k1 b o e))
end
end DL

set_option maxRecDepth 100000
set_option maxHeartbeats 2000000
/-! DL22: x[j] += e, f-strings, x, *y = e, a try that runs through. -/
namespace DL
open PySem PySem.Spec L2
open Evl (Ex)
/-! ### x[j] op= e of an own list of ints -/
section
variable {X : Cx} {W : WX} {P : List Nat}
theorem get_list : PGet X (rIxL X.K) := by
  intro pins s σ H o i ov iv Q I ro ri h
  obtain ⟨p, xs, k, z, rfl, rfl, hq, he, q⟩ := h
  cases ro
  obtain ⟨t, rfl⟩ := ri
  obtain ⟨its, r, pl, hz⟩ := I.list hq
  obtain ⟨j, h1, h2, h3, h4, h5⟩ := atI_get he
  obtain ⟨u, eu, ru⟩ := r.get h2
  have hl := r.length
  have hn := line63
  have fin : EP X pins σ Q u s := ⟨z, H, I, ru, q⟩
  by_cases h0 : 0 ≤ k
  · have hj : k.toNat = j := by
      rw [seqIndex_of h0 h5] at h1
      exact Option.some.inj h1
    exact wpAny_getItem_list pl.isList h0 (by omega) (by rw [hj]; simpa using eu) fin
  · have hj : (k + (its.toArray.size : Int)).toNat = j := by
      rw [seqIndex_neg (by omega) h4] at h1
      rw [List.size_toArray, ← hl]
      exact Option.some.inj h1
    exact wpAny_getItem_list_neg pl.isList (by omega) (by rw [List.size_toArray] <;> omega) (by omega) (by rw [hj]; simpa using eu) fin
def sAugIx (i : Nat) (dj : DEn) (f : Int → Int → Int) (d : DEn) : DSt := fun ρ => match ρ[i]? with
  | some (some (.own (.lst _))) => (dj ρ).asVal.thenS fun j ρ1 => (match ρ1[i]?, j with
    | some (some (.own (.lst xs))), .val (.int k) => (match atI xs k with
      | some (.int n) => (d ρ1).asVal.thenS fun r ρ2 => (match ρ2[i]?, r with
        | some (some (.own (.lst ys))), .val (.int m) => (match ixN ys.length k with
          | some q => .nx (ρ2.set i (some (.own (.lst (ys.set q (.int (f n m)))))))
          | none => .bad)
        | _, _ => .bad)
      | _ => .bad)
    | _, _ => .bad)
  | _ => .bad
theorem atI_rep {K : PySem.W.Frag} {A : Hp} {vs : List V} {ds : List D} {k : Int} {d : D} (r : RepL K A vs ds) (h : atI ds k = some d) : ∃ v, atI vs k = some v ∧ Rep K A v d := by
  unfold atI at h ⊢
  rw [r.length]
  cases e : ixN ds.length k with
  | none => rw [e] at h; cases h
  | some j =>
    rw [e] at h
    exact r.get h
theorem ds_augIx {x : Str} {i : Nat} {j e : Expr} {dj d : DEn} {op : Operator} {f : Int → Int → Int} {px tpos pos : Pos} (ho : PE X (.Name x px) (tVar i)) (hj : DE X W j dj) (he : DE X W e d) (hop : PIp X op (ipI f))
    (ha : ∀ ov iv new, augStore j ov iv new = (do holding [new, ov, iv] (setItem ov iv new); release [new, ov, iv] []; pure .next) := by intros; rfl) : DS X W P (.AugAssign (.Subscript (.Name x px) j tpos) op e pos) (sAugIx i dj f d) :=
  PS.weak (ps_augS ho hj get_list he hop set_list ha) fun D σ H ⟨Fo, A, ρ, S, p⟩ => by
    unfold sAugIx at p
    cases hi : ρ[i]? with
    | none => rw [hi] at p; exact p.elim
    | some o =>
      rw [hi] at p
      cases o with
      | none => exact p.elim
      | some rr =>
        cases rr with
        | val _ => exact p.elim
        | own m =>
          cases m with
          | lst xs0 =>
            obtain ⟨a, vs, g1, g2, g3⟩ := own_lst S hi
            refine ⟨.ref a, g1, Fo, A, ρ, S, Post.asVal (post_then p fun vj rj A1 H1 ρ1 e1 S1 rvj q1 => ?_)⟩
            cases hk : ρ1[i]? with
            | none => rw [hk] at q1; exact q1.elim
            | some o1 =>
              rw [hk] at q1
              cases o1 with
              | none => exact q1.elim
              | some r1 =>
                cases r1 with
                | val _ => exact q1.elim
                | own m1 =>
                  cases m1 with
                  | lst xs =>
                    obtain ⟨b, ws, f1, f2, f3⟩ := own_lst S1 hk
                    rw [g1] at f1; cases f1
                    cases rvj with
                    | own => exact q1.elim
                    | val rvj =>
                      cases rvj with
                      | int k =>
                        dsimp only at q1
                        cases hx : atI xs k with
                        | none => rw [hx] at q1; exact q1.elim
                        | some dn =>
                          rw [hx] at q1
                          obtain ⟨v, ev, rv⟩ := atI_rep f3 hx
                          cases dn with
                          | int n =>
                            cases rv
                            refine ⟨a, ws, k, .int n, rfl, rfl, .inl (.inl f2), ev, Fo, A1, ρ1, S1, Post.asVal (post_then q1 fun v2 r2 A2 H2 ρ2 e2 S2 rv2 q2 => ?_)⟩
                            cases hl : ρ2[i]? with
                            | none => rw [hl] at q2; exact q2.elim
                            | some o2 =>
                              rw [hl] at q2
                              cases o2 with
                              | none => exact q2.elim
                              | some r3 =>
                                cases r3 with
                                | val _ => exact q2.elim
                                | own m2 =>
                                  cases m2 with
                                  | lst ys =>
                                    obtain ⟨c, us, h1, h2, h3⟩ := own_lst S2 hl
                                    rw [g1] at h1; cases h1
                                    cases rv2 with
                                    | own => exact q2.elim
                                    | val rv2 =>
                                      cases rv2 with
                                      | int m =>
                                        dsimp only at q2
                                        cases hq : ixN ys.length k with
                                        | none => rw [hq] at q2; exact q2.elim
                                        | some z =>
                                          rw [hq] at q2
                                          refine ⟨n, m, rfl, rfl, a, us, k, z, rfl, rfl, h2, by rw [h3.length]; exact hq, ?_⟩
                                          exact q2 σ A2 _ (Keep.refl _ _) (Ex.refl _) (S2.write hl g1 (.lst (h3.set z (.int _))))
                                      | _ => exact q2.elim
                                  | _ => exact q2.elim
                          | _ => exact q1.elim
                      | _ => exact q1.elim
                  | _ => exact q1.elim
          | _ => exact p.elim
end
/-! ### f-strings -/
/-- a part: a text or an int -/
def fmtD : D → Option Str
  | .str y => if y.length ≤ sizeLine then some y else none
  | .int i => if i.natAbs.log2 < 1920 then some (toString i) else none
  | _ => none
def dJs : List DEn → Str → DEn
  | [], acc, ρ => .ok (.val (.str acc)) ρ
  | d :: ds, acc, ρ => (d ρ).bind fun x ρ1 => match fmtD x with
    | some y => if (acc ++ y).length ≤ sizeLine then dJs ds (acc ++ y) ρ1 else .bad
    | none => .bad
section
variable {X : Cx} {W : WX}
def DJ (X : Cx) (W : WX) (es : List Expr) (ds : List DEn) : Prop := ∃ ts, PJ X es ts ∧ ∀ (Fo A : Hp) (σ : L2.St) (H : Hp) (ρ : Slots) (acc : Str) (Q : VK), Sat X.K Fo A H σ ρ → Post X.K W Fo A σ (dJs ds acc ρ) Q → tJs ts acc σ H fun out H1 => Q (.str out) H1
theorem dj_nil : DJ X W [] [] := ⟨[], .nil, fun Fo A σ H ρ acc Q S p => Post.now p S (.str acc)⟩
theorem dj_lit {x : Str} {j : Nat} {p : Pos} {es : List Expr} {ds : List DEn} (hs : DJ X W es ds) : DJ X W (.Constant (.str x) j p :: es) (dC (.str x) :: ds) := by
  obtain ⟨ts, h1, h2⟩ := hs
  refine ⟨_, .cons pe_str h1, fun Fo A σ H ρ acc Q S p => ?_⟩
  replace p : Post X.K W Fo A σ (match (if x.length ≤ sizeLine then some x else none) with
    | some y => if (acc ++ y).length ≤ sizeLine then dJs ds (acc ++ y) ρ else .bad
    | none => .bad) Q := p
  by_cases hx : x.length ≤ sizeLine
  · rw [if_pos hx] at p
    obtain ⟨hc, p⟩ := ifB (P := fun z : ERes => Post X.K W Fo A σ z Q) p (fun z => z)
    exact ⟨x, rfl, hc, h2 _ _ _ _ _ _ _ S p⟩
  · rw [if_neg hx] at p; exact p.elim
theorem dj_val {e : Expr} {d : DEn} {p : Pos} {es : List Expr} {ds : List DEn} (he : DE X W e d) (hs : DJ X W es ds) : DJ X W (.FormattedValue e (-1) none p :: es) (d :: ds) := by
  obtain ⟨ts, h1, h2⟩ := hs
  refine ⟨_, .cons (pe_fmt he) h1, fun Fo A σ H ρ acc Q S p => ⟨Fo, A, ρ, S, post_bind p fun v x A1 H1 ρ1 e1 S1 r1 p1 => ?_⟩⟩
  cases r1 with
  | str y =>
    unfold fmtD at p1
    dsimp only at p1
    by_cases hx : y.length ≤ sizeLine
    · rw [if_pos hx] at p1
      obtain ⟨hc, p1⟩ := ifB (P := fun z : ERes => Post X.K W Fo A1 σ z Q) p1 (fun z => z)
      exact .inl ⟨y, rfl, hx, y, rfl, hc, h2 _ _ _ _ _ _ _ S1 p1⟩
    · rw [if_neg hx] at p1; exact p1.elim
  | int i =>
    unfold fmtD at p1
    dsimp only at p1
    by_cases hx : i.natAbs.log2 < 1920
    · rw [if_pos hx] at p1
      obtain ⟨hc, p1⟩ := ifB (P := fun z : ERes => Post X.K W Fo A1 σ z Q) p1 (fun z => z)
      exact .inr ⟨i, rfl, hx, _, rfl, hc, h2 _ _ _ _ _ _ _ S1 p1⟩
    · rw [if_neg hx] at p1; exact p1.elim
  | _ => exact p1.elim
theorem de_joined {v1 v2 : Expr} {rest : List Expr} {ds : List DEn} {pos : Pos} (h : DJ X W (v1 :: v2 :: rest) ds) : DE X W (.JoinedStr (v1 :: v2 :: rest) pos) (dJs ds Str.empty) := by
  obtain ⟨ts, h1, h2⟩ := h
  exact PE.weak (pe_joined h1) fun σ H Q ⟨Fo, A, ρ, S, p⟩ => h2 _ _ _ _ _ _ _ S p
end
/-! ### a try that runs through -/
def sNoX (s : DSt) : DSt := fun ρ => match s ρ with
  | .exc _ _ => .bad
  | r => r
theorem ds_tryThru {X : Cx} {W : WX} {P : List Nat} {body : List Stmt} {h0 : ExceptHandler} {hs : List ExceptHandler} {pos : Pos} {s : DSt} (hb : DSs X.nox W0 P body s) : DS X W P (.Try body (h0 :: hs) [] [] pos) (sNoX s) :=
  PS.weak (ps_try_thru0 hb) fun D σ H ⟨Fo, A, ρ, S, p⟩ => ⟨Fo, A, ρ, S, by
    unfold sNoX at p
    cases hr : s ρ with
    | exc x ρ1 => rw [hr] at p; exact p.elim
    | nx ρ1 => rw [hr] at p; exact p
    | rt r ρ1 => rw [hr] at p; exact p
    | bk ρ1 => rw [hr] at p; exact p
    | ct ρ1 => rw [hr] at p; exact p
    | bad => rw [hr] at p; exact p⟩
/-! ### x, *y = a list -/
section
variable {prog : Program} {w : World} {A : Around} {E : Value → Shared → Prop} {s : Shared}
theorem walks_shift {I : Addr} {fp wr : List Addr} {n : Nat} {R : Nat → Value → Prop} {St : Nat → Heap → Prop} (Wk : Walks prog w A I fp wr (n + 1) R St) : Walks prog w A I fp wr n (fun i => R (i + 1)) (fun i => St (i + 1)) where
  sub := Wk.sub
  frame := fun i => Wk.frame (i + 1)
  item := fun i s Q E hi => Wk.item (i + 1) s Q E (by omega)
  done := Wk.done
  self := fun i => Wk.self (i + 1)
theorem unpack_star {l : Addr} {x0 : Value} {xs : List Value} {Q : List Value → Shared → Prop} (hh : A.handled = none) (hl : s.heap.IsList l (x0 :: xs).toArray) (hz : xs.length ≤ sizeLine)
    (hQ : ∀ (h' : Heap) (tk : Nat), (∀ b o, s.heap.get? b = some o → h'.get? b = some o) → s.heap.get? h'.objs.size = none → Q [x0, .ref h'.objs.size] { s with heap := h'.push { cls := .type "list", data := .seq xs.toArray }, toks := tk }) :
    wpAny (model prog w) A (unpackItems (.ref l) 2 (some 1)) Q E s := by
  have lt : l < s.heap.objs.size := by obtain ⟨o, ho, _⟩ := hl; exact Heap.lt_size ho
  have ne : l ≠ s.heap.objs.size := Nat.ne_of_lt lt
  unfold unpackItems
  refine wpAny_bind ?_
  unfold notIterableAtAll
  refine wpAny_bind (wpAny_specialOf hl.typeIs slot_list_iter.lookup (wpAny_pure ?_))
  simp only [Bool.false_eq_true, if_false]
  refine wpAny_bind (wpAny_holding (wpAny_pyIter_list hl ?_))
  have hI : (s.heap.push { cls := .type "list_iterator", data := .fields #[.ref l, .int 0 0] }).IsListIter s.heap.objs.size l 0 := ⟨_, Heap.get?_push_size _ rfl, rfl, rfl⟩
  have sz : (s.heap.push { cls := .type "list_iterator", data := .fields #[.ref l, .int 0 0] }).objs.size = s.heap.objs.size + 1 := Heap.size_push _ _
  refine wpAny_bind (wpAny_holding (PySem.W.kun_draw ne 1 0 _ _ hI (hl.push _) (by simp) fun h1 it1 sb => ?_))
  simp only [List.drop_zero, List.take_succ_cons, List.take_zero, List.length_cons, List.length_nil, Nat.zero_add]
  have l1 : h1.IsList l (x0 :: xs).toArray := (hl.push _).extBut sb.extBut ne
  have hsz : s.heap.objs.size < h1.objs.size := by
    obtain ⟨o, ho, _⟩ := it1
    exact Heap.lt_size ho
  refine wpAny_bind (wpAny_holding (wpAny_collect_iter (T := "list_iterator") (.inr (.inr (.inl rfl))) (walks_shift (n := xs.length) (Walks.list (prog := prog) (w := w) (A := A.in1) hh s.heap.objs.size l ne (x0 :: xs).toArray)).toS
    (fun _ _ st => let ⟨o, ho, hc, _⟩ := st.1; ⟨o, ho, hc⟩) ⟨it1, l1⟩ (fun b hb => ?_) (by simp) (fun s' acc mv it => ?_) hz))
  · show b < h1.objs.size
    have eI : s.heap.objs.size < h1.objs.size := hsz
    rcases List.mem_cons.mp hb with q | q
    · exact q ▸ eI
    · exact (List.mem_singleton.mp q) ▸ Nat.lt_trans lt eI
  · obtain ⟨hp, gg, dd, tt, oo⟩ := s'
    obtain ⟨m1, m2, m3, m4, m5⟩ := mv
    dsimp only at m1 m2 m3 m4 m5
    have ea : acc.toList = xs := by
      apply List.ext_getElem?
      intro i
      by_cases hi : i < xs.length
      · have := it.2 i acc[i]! (by rw [Array.getElem?_eq_getElem (by rw [it.1]; exact hi)]; simp [getElem!_pos, it.1, hi])
        simp at this
        rw [Array.getElem?_toList, Array.getElem?_eq_getElem (by rw [it.1]; exact hi)]
        rw [this]
        simp [getElem!_pos, it.1, hi]
      · rw [List.getElem?_eq_none (by rw [Array.length_toList, it.1]; omega), List.getElem?_eq_none (by omega)]
    rw [ea]
    simp only [List.length_cons, List.length_nil, Nat.zero_add, Nat.sub_self]
    rw [if_neg (by omega)]
    have e1 : xs.drop (xs.length - 0) = [] := List.drop_eq_nil_of_le (by omega)
    have e2 : xs.take (xs.length - 0) = xs := List.take_of_length_le (by omega)
    rw [e1, e2]
    have k : ∀ b o, s.heap.get? b = some o → hp.get? b = some o := fun b o e => m1 b o (not_one (Heap.lt_size e)) (sb.extBut b o (Nat.ne_of_lt (Heap.lt_size e)) (Heap.get?_push_of_some _ e))
    subst m2 m3 m4
    refine wpAny_bind (wpAny_newObj_type (wpAny_pure (hQ hp tt k ?_)) (by simpa [sizeOk] using hz))
    cases e : s.heap.get? hp.objs.size with
    | none => rfl
    | some o => exact absurd (Heap.lt_size (k _ o e)) (Nat.lt_irrefl _)
end
section
variable {X : Cx} {W : WX} {P : List Nat}
def gStarT (K : PySem.W.Frag) (t : TGs) : TG := fun v σ H Q => ∃ a v0 vs, v = .ref a ∧ SqL K H a (v0 :: vs) ∧ ∀ p, H p = none → t [v0, .ref p] σ (upd H p (.lst vs)) Q
theorem pg_starT {e1 e2 : Expr} {k : Nat} {t : TGs} {sp pos : Pos} (hc : X.calm = true) (h : PGs X [e1, e2] t) (hs : (assignEach [e1, .Starred e2 sp] X.env).map (·.2) = (assignEach [e1, e2] X.env).map (·.2) := by rfl)
    (hn : (assignEach [e1, .Starred e2 sp] X.env).length = 2 := by rfl) (hst : (assignEach [e1, .Starred e2 sp] X.env).findIdx? (·.1) = some 1 := by rfl) : PG X (.Tuple [e1, .Starred e2 sp] k pos) (gStarT X.K t) := by
  refine ⟨fun pins s σ H v u Q I r hw => ?_⟩
  obtain ⟨a, v0, vs, e1, hq, hw⟩ := hw
  subst e1
  cases r
  obtain ⟨its, rv, pl, hz⟩ := I.list hq
  cases rv with
  | cons r0 rs =>
    rename_i u0 us
    have hl' : s.heap.IsList a (u0 :: us).toArray := by
      obtain ⟨o, m, e, c, d, q⟩ := pl
      exact ⟨o, e, c, m, q⟩
    rw [PyProof.Rows.assign_Tuple]
    refine wpAny_bind (wpAny_standAt ?_)
    unfold unpack
    rw [hn, hst, hs]
    have hz' : us.length ≤ sizeLine := by
      have z := hz
      rw [List.length_cons] at z
      have := rs.length
      omega
    refine wpAny_bind (wpAny_holding (unpack_star (I.ok.hd hc) hl' hz' fun h' tk k fr => ?_))
    have nH : H h'.objs.size = none := HOk.fresh (HOk.kept I.hok k) (Nat.le_refl _)
    have I1 : Inv X pins σ (upd H h'.objs.size (.lst vs)) { s with heap := h'.push { cls := .type "list", data := .seq us.toArray }, toks := tk } := Inv.laidN I (fun b o e => Heap.get?_push_of_some _ (k b o e)) fr nH ⟨by rw [rs.length]; exact hz', us, _, rs, Heap.get?_push_size _ rfl⟩
    exact h.run pins _ σ _ [v0, .ref h'.objs.size] _ Q I1 (.cons r0 (.cons rfl .nil)) (hw _ nH)
def sStar (i j : Nat) (d : DEn) : DSt := fun ρ => (d ρ).asVal.thenS fun r ρ1 => match r with
  | .val (.lst (x :: xs)) => .nx ((ρ1.set i (some (.val x))).set j (some (.own (.lst xs))))
  | _ => .bad
theorem ds_star {i j : Nat} {x y : Str} {e : Expr} {d : DEn} {k : Nat} {px py sp tp pos : Pos} (hc : X.calm = true) (hN : X.N.Nodup) (hi : X.N[i]? = some x) (hj : X.N[j]? = some y) (hij : i ≠ j) (hPi : i ∉ P) (hPj : j ∉ P) (he : DE X W e d)
    (gx : PG X (.Name x px) (gName i)) (gy : PG X (.Name y py) (gName j))
    (hs : swapsWithSole [.Tuple [.Name x px, .Starred (.Name y py) sp] k tp] e pos.line X.env = pure false := by rfl) (hw : swappedStores [.Tuple [.Name x px, .Starred (.Name y py) sp] k tp] e X.env = pure none := by rfl)
    (h1 : (assignEach [.Tuple [.Name x px, .Starred (.Name y py) sp] k tp] X.env).map (·.2) = [assign (.Tuple [.Name x px, .Starred (.Name y py) sp] k tp) X.env] := by rfl)
    (h2 : (assignEach [.Name x px, .Starred (.Name y py) sp] X.env).map (·.2) = (assignEach [.Name x px, .Name y py] X.env).map (·.2) := by rfl)
    (h3 : (assignEach [.Name x px, .Starred (.Name y py) sp] X.env).length = 2 := by rfl) (h4 : (assignEach [.Name x px, .Starred (.Name y py) sp] X.env).findIdx? (·.1) = some 1 := by rfl)
    (h5 : (assignEach [.Name x px, .Name y py] X.env).map (·.2) = assign (.Name x px) X.env :: (assignEach [.Name y py] X.env).map (·.2) := by rfl) (h6 : (assignEach [.Name y py] X.env).map (·.2) = assign (.Name y py) X.env :: (assignEach [] X.env).map (·.2) := by rfl) :
    DS X W P (.Assign [.Tuple [.Name x px, .Starred (.Name y py) sp] k tp] e pos) (sStar i j d) :=
  PS.weak (ps_asg he (pg_starT hc (pgs_cons gx (pgs_cons gy pgs_nil h6) h5) h2 h3 h4) hs hw h1) fun D σ H ⟨Fo, A, ρ, S, p⟩ => ⟨Fo, A, ρ, S, Post.asVal (post_then p fun v r A1 H1 ρ1 e1 S1 rv q => by
    cases rv with
    | own => exact q.elim
    | val rv =>
      cases rv with
      | lst h l =>
        cases l with
        | nil => exact q.elim
        | cons l0 ls =>
          refine ⟨_, _, _, rfl, .inl (.inl (S1.ex _ _ h)), fun p hp => ?_⟩
          refine ⟨_, _, rfl, ⟨_, _, rfl, ⟨rfl, ?_⟩⟩⟩
          have S3 := S1.setD (i := i) l0
          exact q _ A1 _ ((Keep.set hPi).trans (Keep.set hPj)) (Ex.refl _) ((S3.fresh hp).setR (S3.newOwn hp (.lst ls)))
      | _ => exact q.elim)⟩
end
end DL

set_option maxRecDepth 100000
set_option maxHeartbeats 2000000
/-! DL23: == of lists whose items are own instances, lists, plain things. -/
namespace DL
open PySem PySem.Spec L2
open Evl (Ex)
mutual
def apart : D → D → Bool
  | .int i, .int j => decide (i ≠ j)
  | .lst xs, .lst ys => apartL xs ys
  | .ins _ _ xs, .ins _ _ ys => apartL xs ys
  | _, _ => false
def apartL : List D → List D → Bool
  | x :: xs, y :: ys => apart x y || apartL xs ys
  | [], [] => false
  | _, _ => true
end
mutual
theorem apart_no {K : PySem.W.Frag} {A : Hp} : ∀ (x y : D) (v : V), Rep K A v x → Rep K A v y → apart x y = false
  | x, y, v, r, s => by
    cases r with
    | int i => cases s; simp [apart]
    | @lst a vs xs h l =>
      cases s with
      | lst h2 l2 =>
        rw [h] at h2; cases h2
        simp only [apart]
        exact apartL_no _ _ _ l l2
      | _ => simp [apart]
    | @ins a dx C fs ns xs h n l =>
      cases s with
      | ins h2 n2 l2 =>
        have q := Option.some.inj (h.symm.trans h2)
        injection q with q1 q2 q3
        subst q3
        simp only [apart]
        exact apartL_no _ _ _ l l2
      | _ => simp [apart]
    | _ => cases s <;> simp [apart]
theorem apartL_no {K : PySem.W.Frag} {A : Hp} : ∀ (xs ys : List D) (vs : List V), RepL K A vs xs → RepL K A vs ys → apartL xs ys = false
  | [], ys, vs, r, s => by cases r; cases s; simp [apartL]
  | x :: xs, ys, vs, r, s => by
    cases r with
    | cons h r =>
      cases s with
      | cons h2 s =>
        simp only [apartL]
        rw [apart_no x _ _ h h2, apartL_no xs _ _ r s]
        rfl
end
abbrev EqTab := List (String × DEn)
def eqAll (f : D → D → Option Bool) : List D → List D → Option Bool
  | x :: xs, y :: ys => (match f x y with
    | some true => eqAll f xs ys
    | some false => some false
    | none => none)
  | [], [] => some true
  | _, _ => some false
def eqIns (tab : EqTab) (C : String) (x y : D) : Option Bool := match tab.lookup C with
  | some c => (match callV c [x, y] with
    | .ok (.val (.bl b)) => if b || apart x y then some b else none
    | _ => none)
  | none => none
def eqO (tab : EqTab) : Nat → D → D → Option Bool
  | 0, _, _ => none
  | _ + 1, .int i, .int j => some (decide (i = j))
  | _ + 1, .str i, .str j => some (decide (i = j))
  | _ + 1, .bl i, .bl j => some (decide (i = j))
  | _ + 1, .non, .non => some true
  | n + 1, .lst xs, .lst ys => if xs.length = ys.length then eqAll (eqO tab n) xs ys else some false
  | _ + 1, .ins C ns xs, .ins C' ms ys => if C = C' then eqIns tab C (.ins C ns xs) (.ins C' ms ys) else none
  | _ + 1, _, _ => none
theorem eqAll_same {K : PySem.W.Frag} {A : Hp} {f : D → D → Option Bool} (h : ∀ x y v, Rep K A v x → Rep K A v y → f x y ≠ some false) : ∀ (xs ys : List D) (vs : List V), RepL K A vs xs → RepL K A vs ys → eqAll f xs ys ≠ some false
  | [], _, _, r, s => by cases r; cases s; simp [eqAll]
  | x :: xs, _, _, r, s => by
    cases r with
    | cons h1 r =>
      cases s with
      | cons h2 s =>
        unfold eqAll
        have := h _ _ _ h1 h2
        split
        · exact eqAll_same h xs _ _ r s
        · rename_i q; exact absurd q this
        · simp
theorem eqO_same {K : PySem.W.Frag} {A : Hp} {tab : EqTab} : ∀ (n : Nat) (x y : D) (v : V), Rep K A v x → Rep K A v y → eqO tab n x y ≠ some false
  | 0, _, _, _, _, _ => by simp [eqO]
  | n + 1, x, y, v, r, s => by
    cases r with
    | int i => cases s; simp [eqO]
    | str i => cases s; simp [eqO]
    | bl i => cases s; simp [eqO]
    | non => cases s; simp [eqO]
    | lst h l =>
      cases s with
      | lst h2 l2 =>
        rw [h] at h2; cases h2
        unfold eqO
        rw [if_pos (l.length.symm.trans l2.length)]
        exact eqAll_same (fun x y v => eqO_same n x y v) _ _ _ l l2
      | _ => simp [eqO]
    | ins h m l =>
      have r0 := Rep.ins h m l
      cases s with
      | ins h2 m2 l2 =>
        have s0 := Rep.ins h2 m2 l2
        unfold eqO
        split
        · unfold eqIns
          split
          · split
            · rename_i b _
              rw [apart_no _ _ _ r0 s0, Bool.or_false]
              cases b <;> simp
            · simp
          · simp
        · simp
      | _ => simp [eqO]
    | _ => cases s <;> simp [eqO]
section
open PySem.SeqAt PySem.MeetsSeq PySem.MeetsSeq2 PySem.MeetsSeq3 PySem.SeqRoads2
variable {prog : Program} {w : World} {B : Around} {l m : Addr} {x y : Array Value} {n n2 i : Nat} {R : Result → Shared → Prop} {s : Shared} {a b : Value}
theorem eq_end (e1 : s.heap.get? l = some { cls := .type "list", data := .seq x n }) (e2 : s.heap.get? m = some { cls := .type "list", data := .seq y n2 }) (o1 : x[((i : Nat) : Int).toNat]? = none) (o2 : y[((i : Nat) : Int).toNat]? = none) (h : R (.ok (.ret (.bool (x.size == y.size)))) s) :
    codeAny (model prog w) B (.builtin "list.__eq__.loop" ⟨[.ref l, .ref m, rawInt i, rawInt 2], []⟩) R s := by
  refine codeAny_builtin entry_eq_loop ?_
  rw [Around.under_plainId plain_eq_loop _]
  refine wpAny_bind (m := Builtin.List.listItems (.ref l)) (wpAny_listItems e1 rfl (wpAny_bind (wpAny_listItems e2 rfl ?_)))
  rw [o1, o2]
  exact wpAny_bind (wpAny_listItems e1 rfl (wpAny_bind (wpAny_listItems e2 rfl (wpAny_pure h))))
theorem eq_no (e1 : s.heap.get? l = some { cls := .type "list", data := .seq x n }) (e2 : s.heap.get? m = some { cls := .type "list", data := .seq y n2 }) (o1 : x[((i : Nat) : Int).toNat]? = some a) (o2 : y[((i : Nat) : Int).toNat]? = some b) (h : wpAny (model prog w) B.in1 (eqBool a b) (fun r s1 => if r = true then codeAny (model prog w) B (.builtin "list.__eq__.loop" ⟨[.ref l, .ref m, rawInt ((i + 1 : Nat) : Int), rawInt 2], []⟩) R s1 else
      ∃ (x' y' : Array Value) (n' n2' : Nat) (a' b' : Value), s1.heap.get? l = some { cls := .type "list", data := .seq x' n' } ∧ s1.heap.get? m = some { cls := .type "list", data := .seq y' n2' } ∧ x'[((i : Nat) : Int).toNat]? = some a' ∧ y'[((i : Nat) : Int).toNat]? = some b' ∧ R (.ok (.ret (.bool false))) s1) (fun e s1 => R (.error e) s1) s) :
    codeAny (model prog w) B (.builtin "list.__eq__.loop" ⟨[.ref l, .ref m, rawInt i, rawInt 2], []⟩) R s := by
  refine codeAny_builtin entry_eq_loop ?_
  rw [Around.under_plainId plain_eq_loop _]
  refine wpAny_bind (m := Builtin.List.listItems (.ref l)) (wpAny_listItems e1 rfl (wpAny_bind (wpAny_listItems e2 rfl ?_)))
  rw [o1, o2]
  refine wpAny_bind (m := eqBool a b) (wpAny_mono h (fun r s1 hr => ?_) fun e s1 z => z)
  cases r with
  | true =>
    rw [if_pos rfl] at hr ⊢
    exact wpAny_pure ⟨plainId_quiet plain_eq_loop _, hr⟩
  | false =>
    rw [if_neg (by decide)] at hr ⊢
    obtain ⟨x', y', n', n2', a', b', f1, f2, p1, p2, hR⟩ := hr
    refine wpAny_bind (wpAny_listItems f1 rfl (wpAny_bind (wpAny_listItems f2 rfl ?_)))
    rw [p1, p2]
    exact wpAny_pure hR
theorem eq_meets : MeetsIn prog w (Builtin.«list.__eq__» ⟨[.ref l, .ref m], []⟩) (fun A R s => ∃ (x y : Array Value) (n n2 : Nat), s.heap.get? l = some { cls := .type "list", data := .seq x n } ∧ s.heap.get? m = some { cls := .type "list", data := .seq y n2 } ∧
    (x.size = y.size → codeAny (model prog w) A (.builtin "list.__eq__.loop" ⟨[.ref l, .ref m, rawInt ((0 : Nat) : Int), rawInt 2], []⟩) R s) ∧ (x.size ≠ y.size → R (.ok (.ret (.bool false))) s)) := by
  rintro A R s ⟨x, y, n, n2, e1, e2, h1, h2⟩
  refine wpAny_bind (m := isInstance (.ref m) (.type "list")) (wpAny_isInstance (b := true) ⟨_, e2, rfl⟩ AutoSeq1.sub_list_list ?_)
  refine wpAny_bind (m := Builtin.List.listItems (.ref l)) (wpAny_listItems e1 rfl (wpAny_bind (wpAny_listItems e2 rfl ?_)))
  by_cases hz : x.size = y.size
  · rw [if_neg (by simp [hz])]
    exact wpAny_pure ⟨plainId_quiet plain_eq_loop _, h1 hz⟩
  · rw [if_pos (by simpa using hz)]
    exact wpAny_bind (wpAny_rule (wpAny_pure (h2 hz)))
theorem ne_end (e1 : s.heap.get? l = some { cls := .type "list", data := .seq x n }) (e2 : s.heap.get? m = some { cls := .type "list", data := .seq y n2 }) (o1 : x[((i : Nat) : Int).toNat]? = none) (o2 : y[((i : Nat) : Int).toNat]? = none) (h : R (.ok (.ret (.bool (x.size != y.size)))) s) :
    codeAny (model prog w) B (.builtin "list.__eq__.loop" ⟨[.ref l, .ref m, rawInt i, rawInt 3], []⟩) R s := by
  refine codeAny_builtin entry_eq_loop ?_
  rw [Around.under_plainId plain_eq_loop _]
  refine wpAny_bind (m := Builtin.List.listItems (.ref l)) (wpAny_listItems e1 rfl (wpAny_bind (wpAny_listItems e2 rfl ?_)))
  rw [o1, o2]
  exact wpAny_bind (wpAny_listItems e1 rfl (wpAny_bind (wpAny_listItems e2 rfl (wpAny_pure h))))
theorem ne_no (e1 : s.heap.get? l = some { cls := .type "list", data := .seq x n }) (e2 : s.heap.get? m = some { cls := .type "list", data := .seq y n2 }) (o1 : x[((i : Nat) : Int).toNat]? = some a) (o2 : y[((i : Nat) : Int).toNat]? = some b) (h : wpAny (model prog w) B.in1 (eqBool a b) (fun r s1 => if r = true then codeAny (model prog w) B (.builtin "list.__eq__.loop" ⟨[.ref l, .ref m, rawInt ((i + 1 : Nat) : Int), rawInt 3], []⟩) R s1 else
      ∃ (x' y' : Array Value) (n' n2' : Nat) (a' b' : Value), s1.heap.get? l = some { cls := .type "list", data := .seq x' n' } ∧ s1.heap.get? m = some { cls := .type "list", data := .seq y' n2' } ∧ x'[((i : Nat) : Int).toNat]? = some a' ∧ y'[((i : Nat) : Int).toNat]? = some b' ∧ R (.ok (.ret (.bool true))) s1) (fun e s1 => R (.error e) s1) s) :
    codeAny (model prog w) B (.builtin "list.__eq__.loop" ⟨[.ref l, .ref m, rawInt i, rawInt 3], []⟩) R s := by
  refine codeAny_builtin entry_eq_loop ?_
  rw [Around.under_plainId plain_eq_loop _]
  refine wpAny_bind (m := Builtin.List.listItems (.ref l)) (wpAny_listItems e1 rfl (wpAny_bind (wpAny_listItems e2 rfl ?_)))
  rw [o1, o2]
  refine wpAny_bind (m := eqBool a b) (wpAny_mono h (fun r s1 hr => ?_) fun e s1 z => z)
  cases r with
  | true =>
    rw [if_pos rfl] at hr ⊢
    exact wpAny_pure ⟨plainId_quiet plain_eq_loop _, hr⟩
  | false =>
    rw [if_neg (by decide)] at hr ⊢
    obtain ⟨x', y', n', n2', a', b', f1, f2, p1, p2, hR⟩ := hr
    refine wpAny_bind (wpAny_listItems f1 rfl (wpAny_bind (wpAny_listItems f2 rfl ?_)))
    rw [p1, p2]
    exact wpAny_pure hR
theorem ne_meets : MeetsIn prog w (Builtin.«list.__ne__» ⟨[.ref l, .ref m], []⟩) (fun A R s => ∃ (x y : Array Value) (n n2 : Nat), s.heap.get? l = some { cls := .type "list", data := .seq x n } ∧ s.heap.get? m = some { cls := .type "list", data := .seq y n2 } ∧
    (x.size = y.size → codeAny (model prog w) A (.builtin "list.__eq__.loop" ⟨[.ref l, .ref m, rawInt ((0 : Nat) : Int), rawInt 3], []⟩) R s) ∧ (x.size ≠ y.size → R (.ok (.ret (.bool true))) s)) := by
  rintro A R s ⟨x, y, n, n2, e1, e2, h1, h2⟩
  refine wpAny_bind (m := isInstance (.ref m) (.type "list")) (wpAny_isInstance (b := true) ⟨_, e2, rfl⟩ AutoSeq1.sub_list_list ?_)
  refine wpAny_bind (m := Builtin.List.listItems (.ref l)) (wpAny_listItems e1 rfl (wpAny_bind (wpAny_listItems e2 rfl ?_)))
  by_cases hz : x.size = y.size
  · rw [if_neg (by simp [hz])]
    exact wpAny_pure ⟨plainId_quiet plain_eq_loop _, h1 hz⟩
  · rw [if_pos (by simpa using hz)]
    exact wpAny_bind (wpAny_rule (wpAny_pure (h2 hz)))
end
section
variable {X : Cx} {W : WX} {k : Nat} {tab : EqTab}
structure EqOk (X : Cx) (k : Nat) (tab : EqTab) : Prop where
  own : ∀ C c, tab.lookup C = some c → OwnOk X.prog X.w X.K X.mg X.base C "__eq__" k 2 c
  nf : ∀ C c, tab.lookup C = some c → PySem.W.notFirst X.K (He.ga X.K (Str.ofString C)) (.ref (He.ga X.K (Str.ofString C))) = true
/-- the state behind a comparison -/
def EqEnd (X : Cx) (pins : List (Addr × Obj)) (σ : L2.St) (ρ : Slots) (Fo A : Hp) (s' : Shared) : Prop := ∃ A' H', Ex A A' ∧ Inv X pins σ H' s' ∧ Sat X.K Fo A' H' σ ρ
theorem EqEnd.ext {pins : List (Addr × Obj)} {σ : L2.St} {ρ : Slots} {Fo A A' : Hp} {s' : Shared} (h : EqEnd X pins σ ρ Fo A' s') (e : Ex A A') : EqEnd X pins σ ρ Fo A s' := let ⟨A2, H2, e2, r⟩ := h; ⟨A2, H2, e.trans e2, r⟩
/-- x == y by eqBool, in the around B -/
def EqB (X : Cx) (B : Around) (f : D → D → Option Bool) : Prop :=
  ∀ (pins : List (Addr × Obj)) (s : Shared) (σ : L2.St) (H Fo A : Hp) (ρ : Slots) (x y : V) (v u : Value) (dx dy : D) (b : Bool), Inv X pins σ H s → RelV x v → RelV y u → Sat X.K Fo A H σ ρ → Rep X.K A x dx → Rep X.K A y dy → f dx dy = some b →
    wpAny (model X.prog X.w) B (eqBool v u) (fun r s' => r = b ∧ EqEnd X pins σ ρ Fo A s') X.xe s
open PySem.SeqAt PySem.MeetsSeq PySem.MeetsSeq2 PySem.MeetsSeq3 PySem.SeqRoads2
open AutoSeq1 (wpAny_loadPart')
theorem list_at {pins : List (Addr × Obj)} {σ : L2.St} {H : Hp} {s : Shared} {a : Addr} {vs : List V} (I : Inv X pins σ H s) (h : H a = some (.lst vs)) : ∃ (its : List Value) (n : Nat), Vals vs its ∧ s.heap.get? a = some { cls := .type "list", data := .seq its.toArray n } := by
  obtain ⟨_, its, n, r, e⟩ := I.hok a _ h
  exact ⟨its, n, r, e⟩
/-- what a comparison of two lists ends in -/
abbrev EqR (X : Cx) (pins : List (Addr × Obj)) (σ : L2.St) (ρ : Slots) (Fo A : Hp) (c : Bool) : Result → Shared → Prop := fun r s' => match r with
  | .ok fl => fl = .ret (.bool c) ∧ EqEnd X pins σ ρ Fo A s'
  | .error e => X.xe e s'
theorem eq_loop {B : Around} {f : D → D → Option Bool} (ih : EqB X B.in1 f) (ne : Bool) {l m : Addr} {pins : List (Addr × Obj)} {σ : L2.St} {Fo : Hp} {ρ : Slots} {xs ys : List D} {vs ws : List V} (hlen : xs.length = ys.length) (b : Bool) : ∀ (j i : Nat) (s : Shared) (H A : Hp), i + j = xs.length →
    L2.Inv X pins σ H s → Sat X.K Fo A H σ ρ → A l = some (.lst vs) → A m = some (.lst ws) → RepL X.K A vs xs → RepL X.K A ws ys → eqAll f (xs.drop i) (ys.drop i) = some b →
    codeAny (model X.prog X.w) B (.builtin "list.__eq__.loop" ⟨[.ref l, .ref m, rawInt i, rawInt (if ne then 3 else 2)], []⟩) (EqR X pins σ ρ Fo A (ne ^^ b)) s := by
  intro j
  induction j with
  | zero =>
    intro i s H A hi I S hl hm rx ry he
    obtain ⟨its, n, r1, e1⟩ := list_at I (S.ex _ _ hl)
    obtain ⟨its2, n2, r2, e2⟩ := list_at I (S.ex _ _ hm)
    have hx : xs.drop i = [] := List.drop_eq_nil_of_le (by omega)
    have hy : ys.drop i = [] := List.drop_eq_nil_of_le (by omega)
    rw [hx, hy] at he
    simp only [eqAll, Option.some.injEq] at he
    have l1 : its.length = xs.length := by rw [← r1.length, rx.length]
    have l2 : its2.length = ys.length := by rw [← r2.length, ry.length]
    have o1 : its.toArray[((i : Nat) : Int).toNat]? = none := by simp; omega
    have o2 : its2.toArray[((i : Nat) : Int).toNat]? = none := by simp; omega
    have sz : its.toArray.size = its2.toArray.size := by simp; omega
    subst he
    have fin : EqEnd X pins σ ρ Fo A s := ⟨A, H, Ex.refl _, I, S⟩
    cases ne with
    | false => exact eq_end e1 e2 o1 o2 ⟨by rw [sz, beq_self_eq_true]; rfl, fin⟩
    | true => exact ne_end e1 e2 o1 o2 ⟨by rw [sz, bne_self_eq_false]; rfl, fin⟩
  | succ j hj =>
    intro i s H A hi I S hl hm rx ry he
    obtain ⟨its, n, r1, e1⟩ := list_at I (S.ex _ _ hl)
    obtain ⟨its2, n2, r2, e2⟩ := list_at I (S.ex _ _ hm)
    have lt1 : i < xs.length := by omega
    have lt2 : i < ys.length := by omega
    rw [List.drop_eq_getElem_cons lt1, List.drop_eq_getElem_cons lt2] at he
    obtain ⟨va, ea, pa⟩ := rx.get (List.getElem?_eq_getElem lt1)
    obtain ⟨vb, eb, pb⟩ := ry.get (List.getElem?_eq_getElem lt2)
    obtain ⟨wa, ea2, ra⟩ := r1.get ea
    obtain ⟨wb, eb2, rb⟩ := r2.get eb
    have o1 : its.toArray[((i : Nat) : Int).toNat]? = some wa := by simpa using ea2
    have o2 : its2.toArray[((i : Nat) : Int).toNat]? = some wb := by simpa using eb2
    unfold eqAll at he
    cases hf : f xs[i] ys[i] with
    | none => rw [hf] at he; cases he
    | some b1 =>
      rw [hf] at he
      have run := ih pins s σ H Fo A ρ va vb wa wb _ _ b1 I ra rb S pa pb hf
      have go : ∀ (r : Bool) (s1 : Shared), (r = b1 ∧ EqEnd X pins σ ρ Fo A s1) → if r = true then codeAny (model X.prog X.w) B (.builtin "list.__eq__.loop" ⟨[.ref l, .ref m, rawInt ((i + 1 : Nat) : Int), rawInt (if ne then 3 else 2)], []⟩) (EqR X pins σ ρ Fo A (ne ^^ b)) s1 else
          ∃ (x' y' : Array Value) (n' n2' : Nat) (a' b' : Value), s1.heap.get? l = some { cls := .type "list", data := .seq x' n' } ∧ s1.heap.get? m = some { cls := .type "list", data := .seq y' n2' } ∧ x'[((i : Nat) : Int).toNat]? = some a' ∧ y'[((i : Nat) : Int).toNat]? = some b' ∧ EqR X pins σ ρ Fo A (ne ^^ b) (.ok (.ret (.bool ne))) s1 := fun r s1 ⟨er, A1, H1, x1, I1, S1⟩ => by
        subst er
        cases r with
        | true =>
          rw [if_pos rfl]
          refine codeAny_mono (hj (i + 1) s1 H1 A1 (by omega) I1 S1 (x1 _ _ hl) (x1 _ _ hm) (rx.mn x1) (ry.mn x1) he) fun r s2 z => ?_
          cases r with
          | error e => exact z
          | ok fl => exact ⟨z.1, z.2.ext x1⟩
        | false =>
          rw [if_neg (by decide)]
          replace he : (some false : Option Bool) = some b := he
          cases he
          obtain ⟨its', n', r1', e1'⟩ := list_at I1 (S1.ex _ _ (x1 _ _ hl))
          obtain ⟨its2', n2', r2', e2'⟩ := list_at I1 (S1.ex _ _ (x1 _ _ hm))
          obtain ⟨wa', ea', _⟩ := r1'.get ea
          obtain ⟨wb', eb', _⟩ := r2'.get eb
          exact ⟨_, _, n', n2', wa', wb', e1', e2', by simpa using ea', by simpa using eb', by rw [Bool.xor_false], A1, H1, x1, I1, S1⟩
      cases ne with
      | false => exact eq_no e1 e2 o1 o2 (wpAny_mono run go fun e s1 z => z)
      | true => exact ne_no e1 e2 o1 o2 (wpAny_mono run go fun e s1 z => z)
theorem eqBool_refs {M : Model} {B : Around} {E : Value → Shared → Prop} {s : Shared} {l m : Addr} {Q : Bool → Shared → Prop} (hne : l ≠ m) (h : wpAny M B (richCompare .Eq (.ref l) (.ref m)) (fun v s' => ∃ b, v = .bool b ∧ Q b s') E s) : wpAny M B (eqBool (.ref l) (.ref m)) Q E s := by
  unfold eqBool
  refine wpAny_holding (wpAny_ite_split (fun q => absurd (eq_of_beq q) (fun z => hne (Value.ref.inj z))) fun _ => ?_)
  refine wpAny_bind (wpAny_mono h (fun v s' ⟨b, e, q⟩ => ?_) fun _ _ z => z)
  subst e
  exact wpAny_truthy_bool q
theorem eqBool_same {M : Model} {B : Around} {E : Value → Shared → Prop} {s : Shared} {v : Value} {Q : Bool → Shared → Prop} (h : Q true s) : wpAny M B (eqBool v v) Q E s := by
  unfold eqBool
  refine wpAny_holding (wpAny_ite_split (fun _ => ?_) (fun q => absurd (beq_self_eq_true v) (by simpa using q)))
  exact wpAny_bind (wpAny_rule (wpAny_pure h))
/-- two lists -/
theorem list_cmp {B : Around} {f : D → D → Option Bool} (ih : EqB X B.in1 f) (hu : B.units < cLine) (ne : Bool) {l m : Addr} {pins : List (Addr × Obj)} {σ : L2.St} {Fo A H : Hp} {ρ : Slots} {s : Shared} {xs ys : List D} {vs ws : List V} (b : Bool)
    (I : L2.Inv X pins σ H s) (S : Sat X.K Fo A H σ ρ) (hl : A l = some (.lst vs)) (hm : A m = some (.lst ws)) (rx : RepL X.K A vs xs) (ry : RepL X.K A ws ys) (he : (if xs.length = ys.length then eqAll f xs ys else some false) = some b) :
    wpAny (model X.prog X.w) B (richCompare (if ne then .NotEq else .Eq) (.ref l) (.ref m)) (fun v s' => v = .bool (ne ^^ b) ∧ EqEnd X pins σ ρ Fo A s') X.xe s := by
  obtain ⟨its, n, r1, e1⟩ := list_at I (S.ex _ _ hl)
  obtain ⟨its2, n2, r2, e2⟩ := list_at I (S.ex _ _ hm)
  have l1 : its.length = xs.length := by rw [← r1.length, rx.length]
  have l2 : its2.length = ys.length := by rw [← r2.length, ry.length]
  have ta : s.TypeIs (.ref l) "list" := ⟨_, e1, rfl⟩
  have tb : s.TypeIs (.ref m) "list" := ⟨_, e2, rfl⟩
  have fin : EqEnd X pins σ ρ Fo A s := ⟨A, H, Ex.refl _, I, S⟩
  have loop : its.toArray.size = its2.toArray.size → codeAny (model X.prog X.w) B (.builtin "list.__eq__.loop" ⟨[.ref l, .ref m, rawInt ((0 : Nat) : Int), rawInt (if ne then 3 else 2)], []⟩) (EqR X pins σ ρ Fo A (ne ^^ b)) s := fun hz => by
    have hz' : xs.length = ys.length := by simp at hz; omega
    rw [if_pos hz'] at he
    exact eq_loop ih ne hz' b xs.length 0 s H A (by omega) I S hl hm rx ry he
  have short : its.toArray.size ≠ its2.toArray.size → b = false := fun hz => by
    rw [if_neg (fun q => hz (by simp; omega))] at he
    exact (Option.some.inj he).symm
  have w2 : ∀ (c : Bool) (r : Result) (s' : Shared), EqR X pins σ ρ Fo A c r s' → wants (fun v s' => v ≠ .notImplemented ∧ (v = .bool c ∧ EqEnd X pins σ ρ Fo A s')) X.xe r s' := fun c r s' h => by
    cases r with
    | error e => exact h
    | ok fl =>
      obtain ⟨e, q⟩ := h
      subst e
      exact ⟨(fun x => nomatch x), rfl, q⟩
  cases ne with
  | false =>
    refine wpAny_richCompare_same_room (op := .Eq) ta tb F.slot_list_eq (call_meetsIn F.slot_list_eq ta F.entry_list_eq (F.args_list_eq_2 _ _) eq_meets ⟨_, _, n, n2, e1, e2, fun hz => codeAny_mono (loop hz) fun r s' h => w2 _ r s' h, fun hz => w2 _ _ _ ⟨?_, fin⟩⟩) hu
    rw [short hz]
    rfl
  | true =>
    refine wpAny_richCompare_same_room (op := .NotEq) ta tb F.slot_list_ne (call_meetsIn F.slot_list_ne ta F.entry_list_ne (F.args_list_ne_2 _ _) ne_meets ⟨_, _, n, n2, e1, e2, fun hz => codeAny_mono (loop hz) fun r s' h => w2 _ r s' h, fun hz => w2 _ _ _ ⟨?_, fin⟩⟩) hu
    rw [short hz]
    rfl
/-- two own instances -/
theorem ins_cmp (T : EqOk X k tab) (tk : Takes X W) {B : Around} (hr : Room k B) (hE : ∀ {pins : List (Addr × Obj)} {σ : L2.St} {H : Hp} {s : Shared}, L2.Inv X pins σ H s → Env0 X.prog X.w X.K X.mg X.base B X.stack s H) {C : String} {ns ms : List Str} {xs ys : List D} {x y : V} {v u : Value} {b : Bool}
    {pins : List (Addr × Obj)} {σ : L2.St} {Fo A H : Hp} {ρ : Slots} {s : Shared}
    (I : L2.Inv X pins σ H s) (r1 : RelV x v) (r2 : RelV y u) (S : Sat X.K Fo A H σ ρ) (q1 : Rep X.K A x (.ins C ns xs)) (q2 : Rep X.K A y (.ins C ms ys)) {c : DEn} (hc : tab.lookup C = some c) (hv : callV c [.ins C ns xs, .ins C ms ys] = .ok (.val (.bl b))) :
    wpAny (model X.prog X.w) B (richCompare .Eq v u) (fun r s' => r = .bool b ∧ EqEnd X pins σ ρ Fo A s') X.xe s := by
  obtain ⟨f, hs, hf, F⟩ := (T.own C c hc).ok
  have nf := T.nf C c hc
  obtain ⟨fd, ps, F, hb, _⟩ := F
  cases q1 with
  | @ins a dx _ fs _ _ h n l =>
    cases q2 with
    | @ins a2 dx2 _ fs2 _ _ h2 n2 l2 =>
      cases r1
      cases r2
      obtain ⟨mA, O', _⟩ := ins_get I.hok (S.ex _ _ h)
      obtain ⟨od, J, _⟩ := O'.look
      obtain ⟨mB, O2, _⟩ := ins_get I.hok (S.ex _ _ h2)
      obtain ⟨od2, J2, _⟩ := O2.look
      obtain ⟨m, hF⟩ := I.fr
      refine PySem.W.cmp_K (op := .Eq) (by have := hr.un; omega) hF I.ok.mod.kin J (type_of (v := V.ref a2) (u := Value.ref a2) (t := .cls C) I S.ex rfl (.ins h2 n2 l2) rfl) nf hs hf ?_
      have ra : RepL X.K A [V.ref a, V.ref a2] [.ins C ns xs, .ins C ms ys] := .cons (.ins h n l) (.cons (.ins h2 n2 l2) .nil)
      have p : Post X.K W Fo A σ ((callV c [.ins C ns xs, .ins C ms ys]).at ρ) fun v H' => v = .bl b ∧ ∃ A', Ex A A' ∧ Sat X.K Fo A' H' σ ρ := by
        rw [hv]
        intro v A' H' e S' rv
        cases rv with
        | val rv => cases rv; exact ⟨rfl, A', e, S'⟩
      have hsp : spD X.K 2 c [V.ref a, V.ref a2] H (fun v H' => v = .bl b ∧ ∃ A', Ex A A' ∧ Sat X.K Fo A' H' σ ρ) (WE W σ) := sp_call S ra.as rfl (by rw [callAt_d]; exact p)
      have hl : [Value.ref a, Value.ref a2].length = ps.length := F.len _ _ _ _ hsp
      have bd := hb s [Value.ref a, Value.ref a2] I.kIn (by rw [List.append_nil]; exact hl)
      rw [List.append_nil] at bd
      refine wpAny_call (codeAny_mono (F.run B X.stack s H ⟨[Value.ref a, Value.ref a2], []⟩ _ [V.ref a, V.ref a2] _ (WE W σ) hr (hE I) bd (.cons rfl (.cons rfl .nil)) hsp) fun r s' hq => ?_)
      cases r with
      | error e => exact passAt tk σ pins H s e s' I hq
      | ok fl =>
        cases fl with
        | ret u =>
          obtain ⟨v', H', I', rv, ev, A', e, S'⟩ := I.after hq
          subst ev
          cases rv
          exact ⟨rfl, A', H', e, I', S'⟩
        | next => exact False.elim hq
        | brk => exact False.elim hq
        | cont => exact False.elim hq
theorem eqB_ok (T : EqOk X k tab) (tk : Takes X W) : ∀ (n : Nat) {B : Around}, Room (k + n) B → (∀ {pins : List (Addr × Obj)} {σ : L2.St} {H : Hp} {s : Shared}, L2.Inv X pins σ H s → Env0 X.prog X.w X.K X.mg X.base B X.stack s H) → EqB X B (eqO tab n)
  | 0, B, _, _ => fun pins s σ H Fo A ρ x y v u dx dy b I r1 r2 S q1 q2 he => by simp [eqO] at he
  | n + 1, B, hr, hE => fun pins s σ H Fo A ρ x y v u dx dy b I r1 r2 S q1 q2 he => by
    have fin : EqEnd X pins σ ρ Fo A s := ⟨A, H, Ex.refl _, I, S⟩
    have atoms : ∀ {c : Bool}, SeqAt.EqAt B s v u c → c = b → wpAny (model X.prog X.w) B (eqBool v u) (fun r s' => r = b ∧ EqEnd X pins σ ρ Fo A s') X.xe s := fun {c} h e => h X.prog X.w X.xe _ ⟨e, fin⟩
    have hu : B.units < cLine := by have := hr.un; omega
    cases q1 with
    | int i =>
      cases q2 <;> simp [eqO] at he
      obtain ⟨t, rfl⟩ := r1
      obtain ⟨t', rfl⟩ := r2
      exact atoms (SeqAt.EqAt.int_int _ _ _ _) (by rw [← he]; rfl)
    | str i =>
      cases q2 <;> simp [eqO] at he
      obtain ⟨t, rfl⟩ := r1
      obtain ⟨t', rfl⟩ := r2
      refine atoms (SeqAt.EqAt.str_str _ _ _ _) ?_
      rw [← he]
      rename_i j
      by_cases e : i = j
      · rw [e]; simp
      · simp [e]
    | bl i =>
      cases q2 <;> simp [eqO] at he
      cases r1
      cases r2
      refine atoms (SeqAt.EqAt.bool_bool _ _) ?_
      rw [← he]
      rename_i j
      cases i <;> cases j <;> rfl
    | non =>
      cases q2 <;> simp [eqO] at he
      cases r1
      cases r2
      subst he
      exact atoms (SeqAt.EqAt.same _) rfl
    | @lst a vs xs h l =>
      cases q2 with
      | @lst a2 ws ys h2 l2 =>
        cases r1
        cases r2
        by_cases hab : a = a2
        · subst hab
          have no := eqO_same (tab := tab) (n + 1) _ _ _ (Rep.lst h l) (Rep.lst h2 l2)
          rw [he] at no
          exact eqBool_same ⟨by cases b <;> simp_all, fin⟩
        · refine eqBool_refs hab (wpAny_mono (list_cmp (eqB_ok T tk n (B := B.in1) (Room.in1 (k := k + n) hr) fun I => (hE I).in1) hu false b I S h h2 l l2 (by simpa [eqO] using he)) (fun r s' ⟨e, q⟩ => ⟨b, by rw [e]; simp, rfl, q⟩) fun _ _ z => z)
      | _ => simp [eqO] at he
    | @ins a dx C fs ns xs h n1 l =>
      cases q2 with
      | @ins a2 dx2 C' fs2 ms ys h2 n2 l2 =>
        have w1 := Rep.ins h n1 l
        have w2 := Rep.ins h2 n2 l2
        cases r1
        cases r2
        unfold eqO at he
        by_cases hC : C = C'
        · subst hC
          rw [if_pos rfl] at he
          unfold eqIns at he
          cases hc : tab.lookup C with
          | none => rw [hc] at he; cases he
          | some c =>
            rw [hc] at he
            dsimp only at he
            split at he
            · rename_i b' hv
              split at he
              · rename_i hb
                have := Option.some.inj he
                subst this
                by_cases hab : a = a2
                · subst hab
                  refine eqBool_same ⟨?_, fin⟩
                  have := apart_no _ _ _ w1 w2
                  rw [this, Bool.or_false] at hb
                  exact hb.symm
                · exact eqBool_refs hab (wpAny_mono (ins_cmp T tk (hr.mono (by omega)) hE I (x := .ref a) (y := .ref a2) rfl rfl S w1 w2 hc hv) (fun r s' ⟨e, q⟩ => ⟨_, e, rfl, q⟩) fun _ _ z => z)
              · cases he
            · cases he
        · rw [if_neg hC] at he; cases he
      | _ => simp [eqO] at he
    | _ => cases q2 <;> simp [eqO] at he
/-! ### xs == ys, xs != ys -/
def gEqL (tab : EqTab) (n : Nat) (x y : D) : VRes := match x, y with
  | .lst xs, .lst ys => (match (if xs.length = ys.length then eqAll (eqO tab n) xs ys else some false) with
    | some b => .ok (.val (.bl b))
    | none => .bad)
  | _, _ => .bad
def gNeL (tab : EqTab) (n : Nat) (x y : D) : VRes := (gEqL tab n x y).not
theorem o_cmpL (T : EqOk X k tab) (tk : Takes X W) (n : Nat) (hr : Room (k + n + 1) X.A) (ne : Bool) : OpD X W (fun v u => richCompare (if ne then .NotEq else .Eq) v u) (fun x y => match gEqL tab n x y with
    | .ok (.val (.bl b)) => .ok (.val (.bl (ne ^^ b)))
    | _ => .bad) := by
  intro pins s σ H Fo A ρ x y v u dx dy Q I r1 r2 S q1 q2 p
  cases q1 with
  | @lst a vs xs h l =>
    cases q2 with
    | @lst a2 ws ys h2 l2 =>
      cases r1
      cases r2
      unfold gEqL at p
      dsimp only at p
      cases he : (if xs.length = ys.length then eqAll (eqO tab n) xs ys else some false) with
      | none => rw [he] at p; exact p.elim
      | some b =>
        rw [he] at p
        refine wpAny_mono (list_cmp (eqB_ok T tk n (B := X.A.in1) (Room.in1 (k := k + n) hr) fun I => I.env0.in1) (by have := hr.un; omega) ne b I S h h2 l l2 he) (fun r s' ⟨e, A', H', x1, I', S'⟩ => ?_) fun _ _ z => z
        subst e
        exact ⟨.bl (ne ^^ b), H', I', rfl, p _ A' H' x1 S' (.val (.bl _))⟩
    | _ => exact p.elim
  | _ => cases q2 <;> exact p.elim
theorem gEqL_two (tab : EqTab) (n : Nat) (x y : D) : gEqL tab n x y = .bad ∨ ∃ b, gEqL tab n x y = .ok (.val (.bl b)) := by
  unfold gEqL
  split
  · split
    · exact .inr ⟨_, rfl⟩
    · exact .inl rfl
  · exact .inl rfl
theorem o_eqL (T : EqOk X k tab) (tk : Takes X W) (n : Nat) (hr : Room (k + n + 1) X.A) : OpD X W (compareOp .Eq) (gEqL tab n) := fun pins s σ H Fo A ρ x y v u dx dy Q I r1 r2 S q1 q2 p => by
  refine o_cmpL T tk n hr false pins s σ H Fo A ρ x y v u dx dy Q I r1 r2 S q1 q2 ?_
  rcases gEqL_two tab n dx dy with e | ⟨b, e⟩
  · rw [e] at p; exact p.elim
  · rw [e] at p
    simp only [e]
    simpa using p
theorem o_neL (T : EqOk X k tab) (tk : Takes X W) (n : Nat) (hr : Room (k + n + 1) X.A) : OpD X W (compareOp .NotEq) (gNeL tab n) := fun pins s σ H Fo A ρ x y v u dx dy Q I r1 r2 S q1 q2 p => by
  refine o_cmpL T tk n hr true pins s σ H Fo A ρ x y v u dx dy Q I r1 r2 S q1 q2 ?_
  unfold gNeL at p
  rcases gEqL_two tab n dx dy with e | ⟨b, e⟩
  · rw [e] at p; exact p.elim
  · rw [e] at p
    simp only [e]
    simpa [VRes.not] using p
end
end DL

set_option maxRecDepth 100000
set_option maxHeartbeats 2000000
/-! DL24: max(l), min(l), l a list of tuples of ints; max(l), min(l) of ints. -/
namespace DL
open PySem PySem.Spec L2
open Evl (Ex)
def lexF (lt : Int → Int → Bool) (zl : Nat → Nat → Bool) : List Int → List Int → Bool
  | x :: xs, y :: ys => if x = y then lexF lt zl xs ys else lt x y
  | xs, ys => zl xs.length ys.length
theorem lexF_at {lt : Int → Int → Bool} {zl : Nat → Nat → Bool} (hz : ∀ m n, zl (m + 1) (n + 1) = zl m n) (ns ms : List Int) : ∀ (k i : Nat), i + k = min ns.length ms.length →
    Ob.lexAt (fun j => decide (ns.getD j 0 = ms.getD j 0)) (fun j => lt (ns.getD j 0) (ms.getD j 0)) (zl ns.length ms.length) i k = lexF lt zl (ns.drop i) (ms.drop i)
  | 0, i, h => by
    have sh : ∀ (j m n : Nat), zl (m + j) (n + j) = zl m n := fun j => by
      induction j with
      | zero => intro m n; rfl
      | succ j ih => intro m n; rw [← Nat.add_assoc, ← Nat.add_assoc, hz, ih]
    have e : zl ns.length ms.length = zl (ns.length - i) (ms.length - i) := by
      have := sh i (ns.length - i) (ms.length - i)
      rw [Nat.sub_add_cancel (by omega), Nat.sub_add_cancel (by omega)] at this
      exact this
    show zl ns.length ms.length = _
    rw [e]
    rcases Nat.lt_or_ge ns.length ms.length with q | q
    · have : ns.drop i = [] := List.drop_eq_nil_of_le (by omega)
      rw [this]
      unfold lexF
      simp
      rw [show ns.length - i = 0 by omega]
    · have : ms.drop i = [] := List.drop_eq_nil_of_le (by omega)
      rw [this]
      have e2 : (ns.drop i).length = ns.length - i := by simp
      cases hd : ns.drop i with
      | nil => rw [hd] at e2; unfold lexF; simp at e2 ⊢; rw [show ms.length - i = 0 by omega, ← e2]
      | cons a t => rw [hd] at e2; unfold lexF; rw [e2]; simp; rw [show ms.length - i = 0 by omega]
  | k + 1, i, h => by
    have h1 : i < ns.length := by omega
    have h2 : i < ms.length := by omega
    rw [List.drop_eq_getElem_cons h1, List.drop_eq_getElem_cons h2]
    unfold Ob.lexAt lexF
    have e1 : ns.getD i 0 = ns[i] := by simp [h1]
    have e2 : ms.getD i 0 = ms[i] := by simp [h2]
    simp only [e1, e2, decide_eq_true_eq]
    by_cases q : ns[i] = ms[i]
    · rw [if_pos q, if_pos q]
      exact lexF_at hz ns ms k (i + 1) (by omega)
    · rw [if_neg q, if_neg q]
def gtI : List Int → List Int → Bool := lexF (fun a b => decide (b < a)) fun m n => decide (n < m)
def ltI : List Int → List Int → Bool := lexF (fun a b => decide (a < b)) fun m n => decide (m < n)
def bestOf (f : List Int → List Int → Bool) (x : List Int) (xs : List (List Int)) : List Int := xs.foldl (fun b v => if f v b then v else b) x
theorem best_at {f : List Int → List Int → Bool} {x : List Int} {xs : List (List Int)} : ∀ k, k ≤ xs.length → (x :: xs)[argBest (fun i j => f ((x :: xs).getD i []) ((x :: xs).getD j [])) k]? = some (bestOf f x (xs.take k))
  | 0, _ => rfl
  | k + 1, h => by
    have ih := best_at (f := f) (x := x) (xs := xs) k (by omega)
    have ht : xs.take (k + 1) = xs.take k ++ [xs[k]] := by simp
    have e1 : (x :: xs).getD (k + 1) [] = xs[k] := by simp [show k < xs.length by omega]
    have e2 : (x :: xs).getD (argBest (fun i j => f ((x :: xs).getD i []) ((x :: xs).getD j [])) k) [] = bestOf f x (xs.take k) := by
      rw [List.getD_eq_getElem?_getD, ih]; rfl
    have e3 : bestOf f x (xs.take (k + 1)) = if f xs[k] (bestOf f x (xs.take k)) then xs[k] else bestOf f x (xs.take k) := by
      unfold bestOf; rw [ht, List.foldl_append]; rfl
    unfold argBest
    rw [e1, e2, e3]
    by_cases q : f xs[k] (bestOf f x (xs.take k)) = true
    · rw [if_pos q, if_pos q]; simp [show k < xs.length by omega]
    · rw [if_neg q, if_neg q]; exact ih
def tupsOf : List D → Option (List (List Int))
  | [] => some []
  | .tup xs :: r => (match intsOf xs, tupsOf r with
    | some a, some b => some (a :: b)
    | _, _ => none)
  | _ => none
theorem intsOf_eq : ∀ {ds : List D} {ns : List Int}, intsOf ds = some ns → ds = ns.map D.int
  | [], _, h => by cases h; rfl
  | .int i :: r, ns, h => by
    obtain ⟨a, h1, h2⟩ := Option.map_eq_some_iff.mp (show (intsOf r).map (i :: ·) = some ns from h)
    subst h2
    rw [intsOf_eq h1]; rfl
  | .non :: _, _, h => by cases h
  | .bl _ :: _, _, h => by cases h
  | .str _ :: _, _, h => by cases h
  | .ty _ :: _, _, h => by cases h
  | .adr _ :: _, _, h => by cases h
  | .lst _ :: _, _, h => by cases h
  | .fix _ :: _, _, h => by cases h
  | .tup _ :: _, _, h => by cases h
  | .ins _ _ _ :: _, _, h => by cases h
  | .dic _ _ :: _, _, h => by cases h
  | .dit _ _ :: _, _, h => by cases h
theorem tupsOf_eq : ∀ {ds : List D} {nss : List (List Int)}, tupsOf ds = some nss → ds = nss.map fun ns => D.tup (ns.map D.int)
  | [], _, h => by cases h; rfl
  | .tup xs :: r, nss, h => by
    unfold tupsOf at h
    split at h
    · rename_i a b h1 h2
      cases h
      rw [intsOf_eq h1, tupsOf_eq h2]; rfl
    · cases h
  | .non :: _, _, h => by cases h
  | .bl _ :: _, _, h => by cases h
  | .str _ :: _, _, h => by cases h
  | .ty _ :: _, _, h => by cases h
  | .adr _ :: _, _, h => by cases h
  | .lst _ :: _, _, h => by cases h
  | .fix _ :: _, _, h => by cases h
  | .int _ :: _, _, h => by cases h
  | .ins _ _ _ :: _, _, h => by cases h
  | .dic _ _ :: _, _, h => by cases h
  | .dit _ _ :: _, _, h => by cases h
@[simp] theorem intsOf_map (ns : List Int) : intsOf (ns.map D.int) = some ns := by
  induction ns with
  | nil => rfl
  | cons a t ih => simp [intsOf, ih]
@[simp] theorem tupsOf_map (nss : List (List Int)) : tupsOf (nss.map fun ns => D.tup (ns.map D.int)) = some nss := by
  induction nss with
  | nil => rfl
  | cons a t ih => simp [tupsOf, ih]
def gBestT (f : List Int → List Int → Bool) : List D → VRes
  | [.lst ds] => (match tupsOf ds with
    | some (ns :: nss) => .ok (.val (.tup ((bestOf f ns nss).map D.int)))
    | _ => .bad)
  | _ => .bad
section
variable {X : Cx} {W : WX} {k : Nat}
/-- the tuples stand -/
def TupsAt (N : Nat) (vs : List V) (nss : List (List Int)) (h : Heap) : Prop := ∀ (i : Nat) (ns : List Int), nss[i]? = some ns → ∃ (t : Addr) (its : List Value), vs[i]? = some (.ref t) ∧ t < N ∧ h.IsTuple t its.toArray ∧ PyProof.Rows.IntsAre its ns
theorem tupsAt_of {pins : List (Addr × Obj)} {σ : L2.St} {H A : Hp} {s : Shared} {vs : List V} {nss : List (List Int)} (I : L2.Inv X pins σ H s) (e : Ex A H) (r : RepL X.K A vs (nss.map fun ns => D.tup (ns.map D.int))) : TupsAt s.heap.objs.size vs nss s.heap := fun i ns h => by
  obtain ⟨v, e1, e2⟩ := r.get (i := i) (d := .tup (ns.map D.int)) (by rw [List.getElem?_map, h]; rfl)
  cases e2 with
  | tup h l =>
    have := RepL.of_ints l
    subst this
    obtain ⟨its, rv, p, _⟩ := I.tuple (Evl.ex_t e h)
    exact ⟨_, its, e1, p.lt, p, Vals.ints rv⟩
theorem tups_cmp (hu : X.A.in1.units < cLine) {vs : List V} {us : List Value} (rv : Vals vs us) {nss : List (List Int)} {op : CmpOp} {lt : Int → Int → Bool} {zl : Nat → Nat → Bool} (hz : ∀ m n, zl (m + 1) (n + 1) = zl m n)
    (two : ∀ {B : Around} {z : Shared} {a b : Addr} {x y : Array Value} {e r : Nat → Bool}, z.heap.IsTuple a x → z.heap.IsTuple b y → B.units < cLine → (∀ j (h1 : j < x.size) (h2 : j < y.size), SeqAt.EqAt B.in1 z x[j] y[j] (e j)) →
      (∀ j (h1 : j < x.size) (h2 : j < y.size), e j = false → Ob.RcOp op B.in1 z x[j] y[j] (r j)) → Ob.RcOp op B z (.ref a) (.ref b) (Ob.lexAt e r (zl x.size y.size) 0 (min x.size y.size)))
    (one : ∀ {B : Around} {z : Shared} (a b : Int) (t u : Tok), Ob.RcOp op B z (.int a t) (.int b u) (lt a b)) (hlen : us.length ≤ nss.length) :
    ∀ (N i j : Nat) (x y : Value) (z : Shared) (Qz Ez : Value → Shared → Prop), TupsAt N vs nss z.heap → us.toArray[i]? = some x → us.toArray[j]? = some y → Qz (.bool (lexF lt zl (nss.getD i []) (nss.getD j []))) z → wpAny (model X.prog X.w) X.A.in1 (richCompare op x y) Qz Ez z := by
  intro N i j x y z Qz Ez T hx hy q
  have hi : i < nss.length := by
    have := (Array.getElem?_eq_some_iff.mp hx).1
    simp at this; omega
  have hj : j < nss.length := by
    have := (Array.getElem?_eq_some_iff.mp hy).1
    simp at this; omega
  obtain ⟨t1, its1, e1, _, p1, i1⟩ := T i _ (List.getElem?_eq_getElem hi)
  obtain ⟨t2, its2, e2, _, p2, i2⟩ := T j _ (List.getElem?_eq_getElem hj)
  obtain ⟨w1, f1, g1⟩ := rv.get e1
  obtain ⟨w2, f2, g2⟩ := rv.get e2
  cases g1
  cases g2
  have : x = .ref t1 := by simp [f1] at hx; exact hx.symm
  subst this
  have : y = .ref t2 := by simp [f2] at hy; exact hy.symm
  subst this
  have d1 : nss.getD i [] = nss[i] := by simp [hi]
  have d2 : nss.getD j [] = nss[j] := by simp [hj]
  rw [d1, d2] at q
  have at1 : ∀ q (h1 : q < its1.toArray.size), ∃ t, its1.toArray[q] = .int (nss[i].getD q 0) t := fun q h1 => PyProof.Rows.IntsAre.int_at i1 _ _ (by simp at h1; simp [h1])
  have at2 : ∀ q (h1 : q < its2.toArray.size), ∃ t, its2.toArray[q] = .int (nss[j].getD q 0) t := fun q h1 => PyProof.Rows.IntsAre.int_at i2 _ _ (by simp at h1; simp [h1])
  have R := two (B := X.A.in1) (z := z) (e := fun q => decide (nss[i].getD q 0 = nss[j].getD q 0)) (r := fun q => lt (nss[i].getD q 0) (nss[j].getD q 0)) p1 p2 hu (fun q h1 h2 => by
    obtain ⟨t, et⟩ := at1 q h1
    obtain ⟨t', et'⟩ := at2 q h2
    rw [et, et']
    have zz : decide (nss[i].getD q 0 = nss[j].getD q 0) = (nss[i].getD q 0 == nss[j].getD q 0) := by
      by_cases c : nss[i].getD q 0 = nss[j].getD q 0
      · rw [decide_eq_true c]; exact (beq_iff_eq.mpr c).symm
      · rw [decide_eq_false c]; exact (beq_eq_false_iff_ne.mpr c).symm
    rw [zz]
    exact SeqAt.EqAt.int_int _ _ _ _) (fun q h1 h2 _ => by
    obtain ⟨t, et⟩ := at1 q h1
    obtain ⟨t', et'⟩ := at2 q h2
    rw [et, et']
    exact one _ _ _ _)
  have s1 : its1.toArray.size = nss[i].length := by rw [List.size_toArray]; exact i1.length
  have s2 : its2.toArray.size = nss[j].length := by rw [List.size_toArray]; exact i2.length
  rw [s1, s2, lexF_at hz _ _ _ 0 (by omega), List.drop_zero, List.drop_zero] at R
  exact R X.prog X.w Ez Qz q
theorem best_call {f : List Int → List Int → Bool} {id : String} (hc : X.calm = true) (run : ∀ {s : Shared} {l : Addr} {items : Array Value} {bt : Nat → Nat → Bool} {Hd : Heap → Prop} {Q E : Value → Shared → Prop}, X.A.handled = none → s.heap.IsList l items → 0 < items.size →
      (∀ h h' : Heap, (∀ b o, b < s.heap.objs.size → h.get? b = some o → h'.get? b = some o) → Hd h → Hd h') → Hd s.heap →
      (∀ (i j : Nat) (x y : Value) (z : Shared) (Qz Ez : Value → Shared → Prop), Hd z.heap → items[i]? = some x → items[j]? = some y → Qz (.bool (bt i j)) z → wpAny (model X.prog X.w) X.A.in1 (richCompare (if id = "max" then .Gt else .Lt) x y) Qz Ez z) →
      (∀ v h' tk, items[argBest bt (items.size - 1)]? = some v → (∀ b o, s.heap.get? b = some o → h'.get? b = some o) → Q v { s with heap := h', toks := tk }) → wpAny (model X.prog X.w) X.A (call (.builtin id) [.ref l]) Q E s)
    (cmp : ∀ {vs : List V} {us : List Value} (rv : Vals vs us) {nss : List (List Int)}, us.length ≤ nss.length → ∀ (N i j : Nat) (x y : Value) (z : Shared) (Qz Ez : Value → Shared → Prop), TupsAt N vs nss z.heap → us.toArray[i]? = some x → us.toArray[j]? = some y → Qz (.bool (f (nss.getD i []) (nss.getD j []))) z →
      wpAny (model X.prog X.w) X.A.in1 (richCompare (if id = "max" then .Gt else .Lt) x y) Qz Ez z) : CallD X W (.builtin id) (gBestT f) := by
  intro pins s σ H Fo A ρ xs us ds Q I r S ra p
  cases ra with
  | nil => exact p.elim
  | cons h rr =>
    cases rr with
    | cons _ _ => cases h <;> exact p.elim
    | nil =>
      cases h with
      | @lst a vs ds hA l =>
        unfold gBestT at p
        dsimp only at p
        cases ht : tupsOf ds with
        | none => rw [ht] at p; exact p.elim
        | some nss =>
          have hd := tupsOf_eq ht
          cases nss with
          | nil => rw [ht] at p; exact p.elim
          | cons ns nss =>
            rw [ht] at p
            obtain ⟨its, rv, pl, hz⟩ := I.list (.inl (.inl (S.ex _ _ hA)))
            rw [Vals.ref1 r]
            have l2 : its.length = (ns :: nss).length := by rw [← rv.length, l.length, hd, List.length_map]
            have hl : s.heap.IsList a its.toArray := pl.isList
            have sz : its.toArray.size = nss.length + 1 := by simp [l2]
            refine run (bt := fun i j => f ((ns :: nss).getD i []) ((ns :: nss).getD j [])) (Hd := TupsAt s.heap.objs.size vs (ns :: nss)) (I.ok.hd hc) hl (by rw [sz]; omega) (fun h h' k T i m e => ?_) (tupsAt_of I S.ex (by rw [← hd]; exact l)) (cmp rv (Nat.le_of_eq l2) _) fun v h' tk hv k => ?_
            · obtain ⟨t, its', e1, e2, e3, e4⟩ := T i m e
              obtain ⟨o, g1, g2⟩ := e3
              exact ⟨t, its', e1, e2, ⟨o, k _ _ e2 g1, g2⟩, e4⟩
            · rw [sz, Nat.add_sub_cancel] at hv
              have b := best_at (f := f) (x := ns) (xs := nss) nss.length (Nat.le_refl _)
              rw [List.take_length] at b
              have I2 : L2.Inv X pins σ H { s with heap := h', toks := tk } := I.kept k
              have hd2 : ds[argBest (fun i j => f ((ns :: nss).getD i []) ((ns :: nss).getD j [])) nss.length]? = some (.tup ((bestOf f ns nss).map D.int)) := by rw [hd, List.getElem?_map, b]; rfl
              obtain ⟨v', e1, e2⟩ := l.get hd2
              obtain ⟨w', e3, e4⟩ := rv.get e1
              rw [List.getElem?_toArray] at hv
              have : v = w' := Option.some.inj (hv.symm.trans e3)
              subst this
              exact ⟨v', H, I2, e4, Post.now p S e2⟩
      | _ => exact p.elim
theorem c_maxT (hc : X.calm = true) (hr : Room (k + 1) X.A) : CallD X W (.builtin "max") (gBestT gtI) :=
  best_call (id := "max") hc (fun hh hl pos hHd hd cmp fin => max_list hh hl pos hHd hd cmp fin) fun {vs us} rv {nss} hl => tups_cmp (have := hr.in1.un; by omega) rv (op := .Gt) (lt := fun a b => decide (b < a)) (zl := fun m n => decide (n < m)) (fun m n => by simp)
    (fun {B z a b x y e r} p1 p2 hu he hr => Ob.RcOp.tuples_gt p1 p2 hu he hr) (fun a b t u => Ob.RcOp.gt_int a b t u) hl
theorem c_minT (hc : X.calm = true) (hr : Room (k + 1) X.A) : CallD X W (.builtin "min") (gBestT ltI) :=
  best_call (id := "min") hc (fun hh hl pos hHd hd cmp fin => min_list hh hl pos hHd hd cmp fin) fun {vs us} rv {nss} hl => tups_cmp (have := hr.in1.un; by omega) rv (op := .Lt) (lt := fun a b => decide (a < b)) (zl := fun m n => decide (m < n)) (fun m n => by simp)
    (fun {B z a b x y e r} p1 p2 hu he hr => Ob.RcOp.tuples_lt p1 p2 hu he hr) (fun a b t u => Ob.RcOp.lt_int a b t u) hl
end
end DL
namespace DL
open PySem PySem.Spec L2
open Evl (Ex)
/-! ### max(l), min(l) of ints -/
def maxL (n : Int) (ns : List Int) : Int := ns.foldl (fun b v => if b < v then v else b) n
def minL (n : Int) (ns : List Int) : Int := ns.foldl (fun b v => if v < b then v else b) n
theorem maxL_mem : ∀ (ns : List Int) (n : Int), maxL n ns ∈ n :: ns
  | [], n => by simp [maxL]
  | v :: ns, n => by
    have h : maxL n (v :: ns) = maxL (if n < v then v else n) ns := rfl
    rw [h]
    rcases List.mem_cons.mp (maxL_mem ns (if n < v then v else n)) with e | e
    · rw [e]
      split
      · exact List.mem_cons_of_mem _ List.mem_cons_self
      · exact List.mem_cons_self
    · exact List.mem_cons_of_mem _ (List.mem_cons_of_mem _ e)
theorem maxL_le : ∀ (ns : List Int) (n : Int), ∀ y ∈ n :: ns, y ≤ maxL n ns
  | [], n, y, h => by simp at h; subst h; exact Int.le_refl _
  | v :: ns, n, y, h => by
    have e : maxL n (v :: ns) = maxL (if n < v then v else n) ns := rfl
    rw [e]
    have h0 := maxL_le ns (if n < v then v else n) (if n < v then v else n) List.mem_cons_self
    rcases List.mem_cons.mp h with rfl | h
    · split at h0 <;> rename_i q <;> simp only [q, if_true, if_false] <;> omega
    · rcases List.mem_cons.mp h with rfl | h
      · split at h0 <;> rename_i q <;> simp only [q, if_true, if_false] <;> omega
      · exact maxL_le ns _ y (List.mem_cons_of_mem _ h)
theorem minL_mem : ∀ (ns : List Int) (n : Int), minL n ns ∈ n :: ns
  | [], n => by simp [minL]
  | v :: ns, n => by
    have h : minL n (v :: ns) = minL (if v < n then v else n) ns := rfl
    rw [h]
    rcases List.mem_cons.mp (minL_mem ns (if v < n then v else n)) with e | e
    · rw [e]
      split
      · exact List.mem_cons_of_mem _ List.mem_cons_self
      · exact List.mem_cons_self
    · exact List.mem_cons_of_mem _ (List.mem_cons_of_mem _ e)
theorem minL_le : ∀ (ns : List Int) (n : Int), ∀ y ∈ n :: ns, minL n ns ≤ y
  | [], n, y, h => by simp at h; subst h; exact Int.le_refl _
  | v :: ns, n, y, h => by
    have e : minL n (v :: ns) = minL (if v < n then v else n) ns := rfl
    rw [e]
    have h0 := minL_le ns (if v < n then v else n) (if v < n then v else n) List.mem_cons_self
    rcases List.mem_cons.mp h with rfl | h
    · split at h0 <;> rename_i q <;> simp only [q, if_true, if_false] <;> omega
    · rcases List.mem_cons.mp h with rfl | h
      · split at h0 <;> rename_i q <;> simp only [q, if_true, if_false] <;> omega
      · exact minL_le ns _ y (List.mem_cons_of_mem _ h)
def gBestI (f : Int → List Int → Int) : List D → VRes
  | [.lst ds] => (match intsOf ds with
    | some (n :: ns) => .ok (.val (.int (f n ns)))
    | _ => .bad)
  | _ => .bad
section
variable {X : Cx} {W : WX} {k : Nat}
theorem bestI_of {K : PySem.W.Frag} {f : Int → List Int → Int} {Fo A H : Hp} {σ : L2.St} {ρ : Slots} {xs : List V} {ds : List D} {Q : VK} {P : Int → List Int → Prop} (S : Sat K Fo A H σ ρ) (ra : RepL K A xs ds) (p : Post K W Fo A σ ((gBestI f ds).at ρ) Q)
    (hu : ∀ n ns m, P m (n :: ns) → m = f n ns) : ∃ (a : Addr) (ns : List Int), xs = [V.ref a] ∧ SqL K H a (ns.map V.int) ∧ 0 < ns.length ∧ ∀ m, P m ns → Q (.int m) H := by
  cases ra with
  | nil => exact p.elim
  | cons h rr =>
    cases rr with
    | cons _ _ => cases h <;> exact p.elim
    | nil =>
      cases h with
      | @lst a vs ds hA l =>
        unfold gBestI at p
        dsimp only at p
        cases ht : intsOf ds with
        | none => rw [ht] at p; exact p.elim
        | some ns =>
          cases ns with
          | nil => rw [ht] at p; exact p.elim
          | cons n ns =>
            rw [ht] at p
            have := l.intsV ht
            subst this
            refine ⟨a, n :: ns, rfl, .inl (.inl (S.ex _ _ hA)), by simp, fun m hm => ?_⟩
            rw [hu n ns m hm]
            exact Post.now p S (.int _)
      | _ => exact p.elim
theorem c_maxI (hc : X.calm = true) : CallD X W (.builtin "max") (gBestI maxL) := CallD.of (cr_max hc) fun σ H Fo A ρ xs ds Q S ra p => by
  obtain ⟨a, ns, h1, h2, h3, h4⟩ := bestI_of (P := fun m ns => m ∈ ns ∧ ∀ y, y ∈ ns → y ≤ m) S ra p fun n ns m ⟨h1, h2⟩ => Int.le_antisymm (maxL_le ns n m h1) (h2 _ (maxL_mem ns n))
  exact ⟨a, ns, h1, h2, h3, fun m g1 g2 => h4 m ⟨g1, g2⟩⟩
theorem c_minI (hc : X.calm = true) : CallD X W (.builtin "min") (gBestI minL) := CallD.of (cr_min hc) fun σ H Fo A ρ xs ds Q S ra p => by
  obtain ⟨a, ns, h1, h2, h3, h4⟩ := bestI_of (P := fun m ns => m ∈ ns ∧ ∀ y, y ∈ ns → m ≤ y) S ra p fun n ns m ⟨h1, h2⟩ => Int.le_antisymm (h2 _ (minL_mem ns n)) (minL_le ns n m h1)
  exact ⟨a, ns, h1, h2, h3, fun m g1 g2 => h4 m ⟨g1, g2⟩⟩
/-! ### the table of own == -/
theorem eqOk_nil : EqOk X k [] := ⟨fun C c h => (by cases h), fun C c h => (by cases h)⟩
theorem eqOk_cons {tab : EqTab} {C : String} {c : DEn} {j : Nat} (O : OwnOk X.prog X.w X.K X.mg X.base C "__eq__" j 2 c) (h : j ≤ k) (nf : PySem.W.notFirst X.K (He.ga X.K (Str.ofString C)) ((Tn.cls C).code X.K) = true) (T : EqOk X k tab) : EqOk X k ((C, c) :: tab) := by
  have O' : OwnOk X.prog X.w X.K X.mg X.base C "__eq__" k 2 c := ⟨O.cl, let ⟨f, h1, h2, F⟩ := O.ok; ⟨f, h1, h2, F.mono h⟩⟩
  refine ⟨fun C' c' e => ?_, fun C' c' e => ?_⟩
  · rw [List.lookup] at e
    split at e
    · rename_i q
      have := eq_of_beq q
      cases e; subst this; exact O'
    · exact T.own C' c' e
  · rw [List.lookup] at e
    split at e
    · rename_i q
      have := eq_of_beq q
      cases e; subst this; exact nf
    · exact T.nf C' c' e
end
end DL

set_option maxRecDepth 100000
set_option maxHeartbeats 2000000
/-! DL25: more for reckoning: calls with lent things, loops by an invariant, comprehensions, streams of draws. -/
namespace DL
open PySem PySem.Spec L2
/-! general -/
theorem callAt_l {c : DEn} {i : Nat} {m q : M} {ds : List D} {ρ : Slots} {r : R} {rest : Slots} (hi : ρ[i]? = some (some (.own m))) (h : c (some (.own m) :: ds.map fun d => some (R.val d)) = .ok r (some (.own q) :: rest)) : callAt c (.l i :: ds.map AV.d) ρ = .ok r (ρ.set i (some (.own q))) := by
  have e1 : (ds.map AV.d).map (argR ρ) = ds.map fun d => some (R.val d) := by rw [List.map_map]; rfl
  have e2 : argR ρ (.l i) = some (.own m) := by simp [argR, hi]
  have e3 : lends (.l i :: ds.map AV.d) = [i] := by show i :: lends (ds.map AV.d) = _; rw [lends_d]
  unfold callAt
  rw [e3, List.map_cons, e1, e2, if_pos ⟨by simp, by simp [argR, hi]⟩, h]
  show ERes.ok r (put (ds.map AV.d) rest (ρ.set i (some (.own q)))) = _
  rw [put_d]
theorem callAt_l1 {c : DEn} {i : Nat} {m q : M} {a : D} {ρ : Slots} {r : R} {rest : Slots} (hi : ρ[i]? = some (some (.own m))) (h : c [some (.own m), some (.val a)] = .ok r (some (.own q) :: rest)) : callAt c [.l i, .d a] ρ = .ok r (ρ.set i (some (.own q))) := callAt_l (ds := [a]) hi h
theorem callAt_l2 {c : DEn} {i : Nat} {m q : M} {a b : D} {ρ : Slots} {r : R} {rest : Slots} (hi : ρ[i]? = some (some (.own m))) (h : c [some (.own m), some (.val a), some (.val b)] = .ok r (some (.own q) :: rest)) : callAt c [.l i, .d a, .d b] ρ = .ok r (ρ.set i (some (.own q))) := callAt_l (ds := [a, b]) hi h
theorem runLc_map {vs : List Nat} {tg : Tg} {te : DEn} {ρ : Slots} {f : D → D} : ∀ (xs acc : List D), (∀ x ∈ xs, ∃ ρ0 ρ2 r, tg.asg x ρ = some ρ0 ∧ te ρ0 = .ok r ρ2 ∧ r.toD = f x ∧ wipeD ρ2 vs = ρ) → acc.length + xs.length ≤ sizeLine → runLc vs tg (dC (.bl true)) te xs ρ acc = .ok (.own (.lst (acc ++ xs.map f))) ρ
  | [], acc, _, _ => by simp [runLc]
  | x :: xs, acc, h, hl => by
    obtain ⟨ρ0, ρ2, r, h1, h2, h3, h4⟩ := h x List.mem_cons_self
    have ih := runLc_map (vs := vs) (tg := tg) (te := te) (ρ := ρ) (f := f) xs (acc ++ [f x]) (fun y hy => h y (List.mem_cons_of_mem _ hy)) (by simp at hl ⊢; omega)
    have hlt : acc.length < sizeLine := by simp at hl; omega
    have e : (te ρ0).noX.bind (fun y ρ2 => if acc.length < sizeLine then runLc vs tg (dC (.bl true)) te xs (wipeD ρ2 vs) (acc ++ [y]) else .bad) = runLc vs tg (dC (.bl true)) te xs ρ (acc ++ [f x]) := by
      rw [h2]
      cases r with
      | val d => simp [hlt, h4]; simp at h3; rw [h3]
      | own m => simp [hlt, h4]; simp at h3; rw [h3]
    show (match tg.asg x ρ with
      | none => ERes.bad
      | some ρ0 => ((dC (.bl true)) ρ0).noX.bind fun b ρ1 => match b with
        | .bl true => (te ρ1).noX.bind fun y ρ2 => if acc.length < sizeLine then runLc vs tg (dC (.bl true)) te xs (wipeD ρ2 vs) (acc ++ [y]) else .bad
        | .bl false => runLc vs tg (dC (.bl true)) te xs (wipeD ρ1 vs) acc
        | _ => .bad) = _
    rw [h1]
    simp only [dC_ok, noX_ok, bind_val]
    rw [e, ih]
    simp
theorem blsOf_map {α : Type} (f : α → Bool) : ∀ xs : List α, blsOf (xs.map fun x => D.bl (f x)) = some (xs.map f)
  | [] => rfl
  | x :: xs => by simp [blsOf, blsOf_map f xs]
/-! turned parts -/
def turn {α : Type} (s e : Nat) (xs : List α) : List α := xs.take s ++ ((xs.drop s).take (e - s)).reverse ++ xs.drop e
section
variable {α β : Type} {s e : Nat} {xs : List α}
theorem turn_app {P M S : List α} (h1 : P.length = s) (h2 : s + M.length = e) : turn s e (P ++ M ++ S) = P ++ M.reverse ++ S := by
  subst h1 h2
  unfold turn
  simp [List.drop_append]
theorem parts (h1 : s ≤ e) (h2 : e ≤ xs.length) : ∃ P M S : List α, xs = P ++ M ++ S ∧ P.length = s ∧ s + M.length = e := by
  refine ⟨xs.take s, (xs.drop s).take (e - s), xs.drop e, ?_, by simp; omega, by simp; omega⟩
  have e1 : (xs.drop s).take (e - s) ++ xs.drop e = xs.drop s := by
    have := List.take_append_drop (e - s) (xs.drop s)
    rw [List.drop_drop] at this
    rw [show s + (e - s) = e by omega] at this
    exact this
  rw [List.append_assoc, e1, List.take_append_drop]
theorem turn_len (h1 : s ≤ e) (h2 : e ≤ xs.length) : (turn s e xs).length = xs.length := by
  obtain ⟨P, M, S, rfl, h3, h4⟩ := parts h1 h2
  rw [turn_app h3 h4]
  simp
theorem turn_turn (h1 : s ≤ e) (h2 : e ≤ xs.length) : turn s e (turn s e xs) = xs := by
  obtain ⟨P, M, S, rfl, h3, h4⟩ := parts h1 h2
  rw [turn_app h3 h4, turn_app h3 (by rw [List.length_reverse]; exact h4), List.reverse_reverse]
theorem turn_map (f : α → β) : (turn s e xs).map f = turn s e (xs.map f) := by
  unfold turn
  simp [List.map_take, List.map_drop]
end
section
variable {s e : Nat} {xs : List D}
theorem cut_lo (h : s ≤ xs.length) : cutD xs none (some (s : Int)) = xs.take s := by
  unfold cutD
  rw [HT.sIx_nat, HT.sIx_none, show min s xs.length = s by omega]
  simp
theorem cut_mid (h1 : s ≤ e) (h2 : e ≤ xs.length) : cutD xs (some (s : Int)) (some (e : Int)) = (xs.drop s).take (e - s) := by
  unfold cutD
  rw [HT.sIx_nat, HT.sIx_nat, show min s xs.length = s by omega, show min e xs.length = e by omega]
theorem cut_hi (h : e ≤ xs.length) : cutD xs (some (e : Int)) none = xs.drop e := by
  unfold cutD
  rw [HT.sIx_nat, HT.sIx_none, show min e xs.length = e by omega]
  apply List.take_of_length_le
  simp
end
/-! ### loops by an invariant -/
theorem runFor_inv {tg : Tg} {body : DSt} (J : Nat → Slots → Prop) : ∀ (xs : List D) (i : Nat) (ρ : Slots), J i ρ → (∀ (j : Nat) (x : D) (ρ : Slots), xs[j]? = some x → J (i + j) ρ → ∃ ρ0 ρ1, tg.asg x ρ = some ρ0 ∧ body ρ0 = .nx ρ1 ∧ J (i + j + 1) ρ1) → ∃ ρ', runFor tg body xs ρ = .nx ρ' ∧ J (i + xs.length) ρ'
  | [], i, ρ, h, _ => ⟨ρ, rfl, h⟩
  | x :: xs, i, ρ, h, st => by
    obtain ⟨ρ0, ρ1, h1, h2, h3⟩ := st 0 x ρ rfl h
    obtain ⟨ρ', e1, e2⟩ := runFor_inv J xs (i + 1) ρ1 h3 fun j y ρ hj hJ => by
      have := st (j + 1) y ρ (by simpa using hj) (by rw [show i + (j + 1) = i + 1 + j by omega]; exact hJ)
      rw [show i + (j + 1) + 1 = i + 1 + j + 1 by omega] at this
      exact this
    refine ⟨ρ', ?_, by rw [show i + (x :: xs).length = i + 1 + xs.length by simp; omega]; exact e2⟩
    unfold runFor
    rw [h1]
    dsimp only
    rw [h2]
    exact e1
theorem runLc_inv {vs : List Nat} {tg : Tg} {te : DEn} (J : Nat → Slots → List D → Prop) : ∀ (xs : List D) (i : Nat) (ρ : Slots) (acc : List D), J i ρ acc → (∀ (j : Nat) (x : D) (ρ : Slots) (acc : List D), xs[j]? = some x → J (i + j) ρ acc → ∃ ρ0 r ρ2, tg.asg x ρ = some ρ0 ∧ te ρ0 = .ok r ρ2 ∧ acc.length < sizeLine ∧ J (i + j + 1) (wipeD ρ2 vs) (acc ++ [r.toD])) →
    ∃ ρ' acc', runLc vs tg (dC (.bl true)) te xs ρ acc = .ok (.own (.lst acc')) ρ' ∧ J (i + xs.length) ρ' acc'
  | [], i, ρ, acc, h, _ => ⟨ρ, acc, rfl, h⟩
  | x :: xs, i, ρ, acc, h, st => by
    obtain ⟨ρ0, r, ρ2, h1, h2, h3, h4⟩ := st 0 x ρ acc rfl h
    obtain ⟨ρ', acc', e1, e2⟩ := runLc_inv J xs (i + 1) _ _ h4 fun j y ρ acc hj hJ => by
      have := st (j + 1) y ρ acc (by simpa using hj) (by rw [show i + (j + 1) = i + 1 + j by omega]; exact hJ)
      rw [show i + (j + 1) + 1 = i + 1 + j + 1 by omega] at this
      exact this
    refine ⟨ρ', acc', ?_, by rw [show i + (x :: xs).length = i + 1 + xs.length by simp; omega]; exact e2⟩
    show (match tg.asg x ρ with
      | none => ERes.bad
      | some ρ0 => ((dC (.bl true)) ρ0).noX.bind fun b ρ1 => match b with
        | .bl true => (te ρ1).noX.bind fun y ρ2 => if acc.length < sizeLine then runLc vs tg (dC (.bl true)) te xs (wipeD ρ2 vs) (acc ++ [y]) else .bad
        | .bl false => runLc vs tg (dC (.bl true)) te xs (wipeD ρ1 vs) acc
        | _ => .bad) = _
    rw [h1]
    simp only [dC_ok, noX_ok, bind_val]
    rw [h2]
    cases r with
    | val d => simp only [noX_ok, bind_val, h3, if_true]; exact e1
    | own m => simp only [noX_ok, bind_own, h3, if_true]; exact e1
end DL

set_option maxRecDepth 100000
set_option maxHeartbeats 2000000
/-! DL26: rows of items and runs, in plain Lean; lists of natural numbers as data; texts of signs. -/
namespace DL
open PySem PySem.Spec L2
/-! ### natural numbers as data -/
def nD (n : Nat) : D := .int (n : Int)
def nL (ns : List Nat) : List D := ns.map nD
@[simp] theorem nL_nil : nL [] = [] := rfl
@[simp] theorem nL_cons {n : Nat} {ns : List Nat} : nL (n :: ns) = .int n :: nL ns := rfl
@[simp] theorem nL_len {ns : List Nat} : (nL ns).length = ns.length := by simp [nL]
theorem nL_app {a b : List Nat} : nL (a ++ b) = nL a ++ nL b := by simp [nL]
theorem nL_rev {a : List Nat} : nL a.reverse = (nL a).reverse := by simp [nL]
theorem nL_ints {ns : List Nat} : nL ns = (ns.map fun (n : Nat) => (n : Int)).map D.int := by simp [nL, nD, Function.comp_def]
theorem nL_inj {a b : List Nat} : nL a = nL b ↔ a = b := by
  constructor
  · intro h
    exact (List.map_inj_right fun x y e => Int.ofNat.inj (D.int.inj e)).mp h
  · rintro rfl; rfl
theorem sum_cast (ns : List Nat) : (ns.map fun (n : Nat) => (n : Int)).sum = ((ns.sum : Nat) : Int) := by
  induction ns with
  | nil => rfl
  | cons n ns ih => simp [ih]
@[simp] theorem intsOf_nL {ns : List Nat} : intsOf (nL ns) = some (ns.map fun (n : Nat) => (n : Int)) := by rw [nL_ints, intsOf_map]
@[simp] theorem gSum_nL {ns : List Nat} : gSum [.lst (nL ns)] = .ok (.val (.int ((ns.sum : Nat) : Int))) := by simp [gSum, sum_cast]
theorem okd_nL {ns : List Nat} {n : Nat} : okd (n + 1) (.lst (nL ns)) = true := by rw [nL_ints]; exact okd_ints
theorem bf_nL {ns : List Nat} : bf (.lst (nL ns)) = true := by rw [nL_ints]; exact bf_ints
theorem gEq_nL {a b : List Nat} : gEq (.lst (nL a)) (.lst (nL b)) = .ok (.val (.bl (decide (a = b)))) := by
  rw [gEq_dec okd_nL okd_nL bf_nL bf_nL]
  congr 3
  exact decide_eq_decide.mpr ⟨fun h => nL_inj.mp (D.lst.inj h), fun h => by rw [h]⟩
theorem gNe_nL {a b : List Nat} : gNe (.lst (nL a)) (.lst (nL b)) = .ok (.val (.bl (!decide (a = b)))) := by unfold gNe; rw [gEq_nL]; rfl
theorem gEq_nLnil {a : List Nat} : gEq (.lst (nL a)) (.lst []) = .ok (.val (.bl (decide (a = [])))) := gEq_nL (b := [])
theorem gNe_nLnil {a : List Nat} : gNe (.lst (nL a)) (.lst []) = .ok (.val (.bl (!decide (a = [])))) := gNe_nL (b := [])
@[simp] theorem gEq_nilnil : gEq (.lst []) (.lst []) = .ok (.val (.bl true)) := gEq_nL (a := []) (b := [])
@[simp] theorem gNe_nilnil : gNe (.lst []) (.lst []) = .ok (.val (.bl false)) := gNe_nL (a := []) (b := [])
/-! ### rows -/
abbrev maxLen : Nat := 1000000000000000000000000000000
structure RowOk (c : Nat) (ns : List Nat) : Prop where
  col : c ≤ 1
  pos : ∀ n ∈ ns, 1 ≤ n
  sum : ns.sum ≤ maxLen
  len : ns.length ≤ 2000
  emp : ns = [] → c = 0
def rowM (c : Nat) (ns : List Nat) : M := .ins "Row" ["colour", "sizes"] [.int c, .lst (nL ns)]
def rowD (c : Nat) (ns : List Nat) : D := .ins "Row" ["colour", "sizes"] [.int c, .lst (nL ns)]
@[simp] theorem rowM_toD {c : Nat} {ns : List Nat} : (rowM c ns).toD = rowD c ns := rfl
theorem row_is {c : Nat} {ns : List Nat} : insIs "Row" (rowD c ns) = true := by simp [rowD, insIs]
theorem row_ty {c : Nat} {ns : List Nat} : tyD (rowD c ns) = some (.cls "Row") := by simp [rowD, tyD]
theorem row_tyI {c : Nat} {ns : List Nat} : tyI (rowD c ns) = some (.cls "Row") := by simp [rowD, tyI, tyD]
theorem f_colour {c : Nat} {ns : List Nat} : gFld "Row" "colour" (rowD c ns) = .ok (.val (.int c)) := by simp [rowD, gFld, fldD]
theorem f_sizes {c : Nat} {ns : List Nat} : gFld "Row" "sizes" (rowD c ns) = .ok (.val (.lst (nL ns))) := by simp [rowD, gFld, fldD]
theorem le_sum {ns : List Nat} {n : Nat} (h : n ∈ ns) : n ≤ ns.sum := by
  induction ns with
  | nil => cases h
  | cons a t ih =>
    rcases List.mem_cons.mp h with rfl | h
    · simp
    · have := ih h; simp; omega
/-- the items -/
def expand : Nat → List Nat → List Nat
  | _, [] => []
  | c, n :: ns => List.replicate n c ++ expand (1 - c) ns
theorem expand_len : ∀ (c : Nat) (ns : List Nat), (expand c ns).length = ns.sum
  | _, [] => rfl
  | c, n :: ns => by simp [expand, expand_len (1 - c) ns]
/-- the runs' lengths -/
def bump : List Nat → List Nat
  | [] => []
  | n :: ns => (n + 1) :: ns
def rle : List Nat → List Nat
  | [] => []
  | [_] => [1]
  | x :: y :: xs => if x = y then bump (rle (y :: xs)) else 1 :: rle (y :: xs)
def Bits (xs : List Nat) : Prop := ∀ x ∈ xs, x ≤ 1
theorem Bits.tail {x : Nat} {xs : List Nat} (h : Bits (x :: xs)) : Bits xs := fun y hy => h y (List.mem_cons_of_mem _ hy)
theorem Bits.app {xs ys : List Nat} (h : Bits xs) (k : Bits ys) : Bits (xs ++ ys) := fun x hx => (List.mem_append.mp hx).elim (h x) (k x)
theorem bump_len (l : List Nat) : (bump l).length = l.length := by cases l <;> rfl
theorem bump_sum {l : List Nat} (h : l ≠ []) : (bump l).sum = l.sum + 1 := by
  cases l with
  | nil => exact absurd rfl h
  | cons a t => simp [bump]; omega
theorem rle_ne : ∀ {x : Nat} {xs : List Nat}, rle (x :: xs) ≠ []
  | _, [] => by simp [rle]
  | x, y :: xs => by
    unfold rle
    split
    · have := rle_ne (x := y) (xs := xs)
      intro e
      cases h : rle (y :: xs) with
      | nil => exact this h
      | cons a t => rw [h] at e; cases e
    · simp
theorem rle_sum : ∀ xs : List Nat, (rle xs).sum = xs.length
  | [] => rfl
  | [_] => rfl
  | x :: y :: xs => by
    have ih := rle_sum (y :: xs)
    unfold rle
    split
    · rw [bump_sum rle_ne, ih]; simp
    · rw [List.sum_cons, ih]; simp; omega
theorem rle_len : ∀ xs : List Nat, (rle xs).length ≤ xs.length
  | [] => Nat.le_refl _
  | [_] => Nat.le_refl _
  | x :: y :: xs => by
    have ih := rle_len (y :: xs)
    unfold rle
    split
    · rw [bump_len]; simp at ih ⊢; omega
    · simp at ih ⊢; omega
theorem rle_pos : ∀ xs : List Nat, ∀ n ∈ rle xs, 1 ≤ n
  | [], n, h => by simp [rle] at h
  | [_], n, h => by simp [rle] at h; omega
  | x :: y :: xs, n, h => by
    have ih := rle_pos (y :: xs)
    unfold rle at h
    split at h
    · cases e : rle (y :: xs) with
      | nil => rw [e] at h; cases h
      | cons a t =>
        rw [e] at h ih
        rcases List.mem_cons.mp h with rfl | h
        · omega
        · exact ih n (List.mem_cons_of_mem _ h)
    · rcases List.mem_cons.mp h with rfl | h
      · omega
      · exact ih n h
theorem expand_bump {c : Nat} {l : List Nat} (h : l ≠ []) : expand c (bump l) = c :: expand c l := by
  cases l with
  | nil => exact absurd rfl h
  | cons a t => simp [bump, expand, List.replicate_succ]
theorem expand_rle : ∀ {x : Nat} {xs : List Nat}, Bits (x :: xs) → expand x (rle (x :: xs)) = x :: xs
  | x, [], _ => by simp [rle, expand]
  | x, y :: xs, h => by
    have ih := expand_rle (x := y) (xs := xs) h.tail
    unfold rle
    split
    · rename_i e
      subst e
      rw [expand_bump rle_ne, ih]
    · rename_i e
      have h1 := h x List.mem_cons_self
      have h2 := h y (List.mem_cons_of_mem _ List.mem_cons_self)
      have e2 : 1 - x = y := by omega
      simp only [expand, List.replicate_one, List.cons_append, List.nil_append, e2]
      rw [ih]
/-- by items -/
def hd (xs : List Nat) : Nat := xs.headD 0
theorem expand_of {xs : List Nat} (h : Bits xs) : expand (hd xs) (rle xs) = xs := by
  cases xs with
  | nil => rfl
  | cons x xs => exact expand_rle h
theorem rowOk_of {xs : List Nat} (h : Bits xs) (hl : xs.length ≤ 2000) : RowOk (hd xs) (rle xs) where
  col := by
    cases xs with
    | nil => simp [hd]
    | cons x xs => exact h x List.mem_cons_self
  pos := rle_pos xs
  sum := by rw [rle_sum]; unfold maxLen; omega
  len := Nat.le_trans (rle_len xs) hl
  emp := fun e => by
    cases xs with
    | nil => rfl
    | cons x xs => exact absurd e rle_ne
/-- from the left -/
def upLast : List Nat → List Nat
  | [] => []
  | [n] => [n + 1]
  | n :: m :: ns => n :: upLast (m :: ns)
theorem upLast_app (l : List Nat) (n : Nat) : upLast (l ++ [n]) = l ++ [n + 1] := by
  induction l with
  | nil => rfl
  | cons a t ih =>
    cases t with
    | nil => rfl
    | cons b t => simp only [List.cons_append, upLast] at ih ⊢; rw [ih]
theorem bump_app {l : List Nat} (h : l ≠ []) (r : List Nat) : bump (l ++ r) = bump l ++ r := by
  cases l with
  | nil => exact absurd rfl h
  | cons a t => rfl
theorem bump_upLast {l : List Nat} (h : l ≠ []) : bump (upLast l) = upLast (bump l) := by
  cases l with
  | nil => exact absurd rfl h
  | cons a t => cases t <;> rfl
theorem rle_snoc : ∀ (xs : List Nat) (y : Nat), rle (xs ++ [y]) = if xs.getLast? = some y then upLast (rle xs) else rle xs ++ [1]
  | [], y => by simp [rle]
  | [x], y => by
    by_cases e : x = y
    · subst e; simp [rle, bump, upLast]
    · simp [rle, e]
  | x :: z :: xs, y => by
    have ih := rle_snoc (z :: xs) y
    have g : (x :: z :: xs).getLast? = (z :: xs).getLast? := by simp [List.getLast?_cons_cons]
    rw [g]
    simp only [List.cons_append] at ih ⊢
    unfold rle
    by_cases e : x = z
    · rw [if_pos e, if_pos e, ih]
      split
      · exact bump_upLast rle_ne
      · exact bump_app rle_ne _
    · rw [if_neg e, if_neg e, ih]
      split
      · cases h : rle (z :: xs) with
        | nil => exact absurd h rle_ne
        | cons a t => rfl
      · rfl
/-! ### texts of signs -/
def bitsS (xs : List Nat) : Str := ⟨(xs.map (48 + ·)).toArray⟩
theorem str_ext {a b : Str} (h : a.cps.toList = b.cps.toList) : a = b := by
  obtain ⟨⟨x⟩⟩ := a
  obtain ⟨⟨y⟩⟩ := b
  simp at h
  rw [h]
theorem bits_toList {xs : List Nat} : (bitsS xs).cps.toList = xs.map (48 + ·) := by simp [bitsS]
theorem bits_len {xs : List Nat} : (bitsS xs).length = xs.length := by
  show (bitsS xs).cps.size = _
  simp [bitsS]
theorem bits_inj {a b : List Nat} : bitsS a = bitsS b ↔ a = b := by
  constructor
  · intro h
    have := congrArg (fun s : Str => s.cps.toList) h
    simp only [bits_toList] at this
    exact (List.map_inj_right fun x y e => by omega).mp this
  · rintro rfl; rfl
theorem bits_app {a b : List Nat} : bitsS (a ++ b) = bitsS a ++ bitsS b := by
  apply str_ext
  show _ = ((bitsS a).cps ++ (bitsS b).cps).toList
  simp [bitsS]
theorem bits_nil : bitsS [] = Str.ofString "" := by decide +kernel
theorem bits_0 : bitsS [0] = Str.ofString "0" := by decide +kernel
theorem bits_1 : bitsS [1] = Str.ofString "1" := by decide +kernel
theorem bits_01 : bitsS [0, 1] = Str.ofString "01" := by decide +kernel
theorem bits_10 : bitsS [1, 0] = Str.ofString "10" := by decide +kernel
theorem bits_chars {xs : List Nat} : chars (bitsS xs) = xs.map fun x => D.str (bitsS [x]) := by
  simp [chars, bitsS, Function.comp_def]
end DL

set_option maxRecDepth 100000
set_option maxHeartbeats 2000000
/-! DL27: a, b, .. = e1, e2, ..: what is new stays one's own. -/
namespace DL
open PySem PySem.Spec L2
open Evl (Ex)
inductive RsRes where
  | ok (rs : List R) (ρ : Slots)
  | exc (x : Xc) (ρ : Slots)
  | bad
def runRs : List DEn → Slots → RsRes
  | [], ρ => .ok [] ρ
  | d :: ds, ρ => match d ρ with
    | .ok r ρ1 => (match runRs ds ρ1 with
      | .ok rs ρ2 => .ok (r :: rs) ρ2
      | .exc x ρ2 => .exc x ρ2
      | .bad => .bad)
    | .exc x ρ1 => .exc x ρ1
    | .bad => .bad
/-- a is none of these own things -/
def NotOf (a : Addr) : List V → List R → Prop
  | v :: vs, .own _ :: rs => v ≠ .ref a ∧ NotOf a vs rs
  | _ :: vs, .val _ :: rs => NotOf a vs rs
  | _, _ => True
inductive RepRs (K : PySem.W.Frag) (Fo A H : Hp) (σ : L2.St) (ρ : Slots) : List V → List R → Prop
  | nil : RepRs K Fo A H σ ρ [] []
  | val {v : V} {d : D} {vs : List V} {rs : List R} : Rep K A v d → RepRs K Fo A H σ ρ vs rs → RepRs K Fo A H σ ρ (v :: vs) (.val d :: rs)
  | own {a : Addr} {o : HO} {m : M} {vs : List V} {rs : List R} : A a = none → Fo a = none → H a = some o → RepM K A o m → Apart σ ρ a → NotOf a vs rs → RepRs K Fo A H σ ρ vs rs → RepRs K Fo A H σ ρ (.ref a :: vs) (.own m :: rs)
def PostRs (K : PySem.W.Frag) (W : WX) (Fo A : Hp) (σ : L2.St) (res : RsRes) (Q : List V → Hp → Prop) : Prop := match res with
  | .ok rs ρ' => ∀ vs A' H', Ex A A' → Sat K Fo A' H' σ ρ' → RepRs K Fo A' H' σ ρ' vs rs → Q vs H'
  | .exc x ρ' => ∀ cls dct A' H', Ex A A' → Sat K Fo A' H' σ ρ' → RepX K A' cls dct x → W cls dct σ H'
  | .bad => False
def rdRs (K : PySem.W.Frag) (W : WX) (ds : List DEn) : TA := fun σ H Q => ∃ Fo A ρ, Sat K Fo A H σ ρ ∧ PostRs K W Fo A σ (runRs ds ρ) Q
def DRs (X : Cx) (W : WX) (es : List Expr) (ds : List DEn) : Prop := PA X es (rdRs X.K W ds)
theorem PostRs.ext {K : PySem.W.Frag} {W : WX} {Fo A A' : Hp} {σ : L2.St} {res : RsRes} {Q : List V → Hp → Prop} (h : PostRs K W Fo A σ res Q) (e : Ex A A') : PostRs K W Fo A' σ res Q := by
  cases res with
  | ok r ρ => exact fun v A2 H' e2 S r => h v A2 H' (e.trans e2) S r
  | exc x ρ => exact fun c d A2 H' e2 S r => h c d A2 H' (e.trans e2) S r
  | bad => exact h
/-- what was kept back is let go again -/
theorem RepRs.unlock {K : PySem.W.Frag} {Fo A H : Hp} {σ : L2.St} {ρ : Slots} {a : Addr} {o : HO} (hf : Fo a = none) : ∀ {vs : List V} {rs : List R}, RepRs K (upd Fo a o) A H σ ρ vs rs → RepRs K Fo A H σ ρ vs rs ∧ NotOf a vs rs
  | _, _, .nil => ⟨.nil, trivial⟩
  | _, _, .val h r => ⟨.val h (r.unlock hf).1, (r.unlock hf).2⟩
  | _, _, .own (a := b) h1 h2 h3 h4 h5 h6 r => by
    have nb : b ≠ a := fun z => by subst z; rw [upd_same] at h2; cases h2
    rw [upd_ne nb] at h2
    exact ⟨.own h1 h2 h3 h4 h5 h6 (r.unlock hf).1, fun z => nb (by cases z; rfl), (r.unlock hf).2⟩
section
variable {X : Cx} {W : WX} {P : List Nat}
theorem drs_nil : DRs X W [] [] := PA.weak pa_nil fun σ H Q ⟨Fo, A, ρ, S, p⟩ => p [] A H (Ex.refl A) S .nil
theorem drs_cons {e : Expr} {es : List Expr} {d : DEn} {ds : List DEn} (h : DE X W e d) (hs : DRs X W es ds) (he : starEach (e :: es) X.env = (false, eval e X.env) :: starEach es X.env := by rfl) : DRs X W (e :: es) (d :: ds) := by
  refine PA.weak (pa_cons h hs he) fun σ H Q ⟨Fo, A, ρ, S, p⟩ => ⟨Fo, A, ρ, S, ?_⟩
  unfold runRs at p
  cases hd : d ρ with
  | bad => rw [hd] at p; exact p
  | exc x ρ1 => rw [hd] at p; exact p
  | ok r ρ1 =>
    rw [hd] at p
    intro v A1 H1 e1 S1 rv
    dsimp only at p
    cases rv with
    | val rv =>
      refine ⟨Fo, A1, ρ1, S1, ?_⟩
      cases hr : runRs ds ρ1 with
      | bad => rw [hr] at p; exact p
      | exc x ρ2 => rw [hr] at p; exact fun c dc A2 H2 e2 S2 rx => p c dc A2 H2 (e1.trans e2) S2 rx
      | ok rs ρ2 => rw [hr] at p; exact fun vs A2 H2 e2 S2 ra => p _ A2 H2 (e1.trans e2) S2 (.val (rv.mn e2) ra)
    | @own a o m h1 h2 h3 h4 h5 =>
      refine ⟨upd Fo a o, A1, ρ1, S1.lock h1 h3 h5, ?_⟩
      cases hr : runRs ds ρ1 with
      | bad => rw [hr] at p; exact p
      | exc x ρ2 => rw [hr] at p; exact fun c dc A2 H2 e2 S2 rx => p c dc A2 H2 (e1.trans e2) (S2.unlock h2).1 rx
      | ok rs ρ2 =>
        rw [hr] at p
        intro vs A2 H2 e2 S2 ra
        obtain ⟨S3, g1, g2, g3⟩ := S2.unlock h2
        obtain ⟨ra', nf⟩ := ra.unlock h2
        exact p _ A2 H2 (e1.trans e2) S3 (.own g1 h2 g2 (h4.mn e2) g3 nf ra')
/-- stored at once -/
def putAll : List Nat → List R → Slots → Slots
  | i :: is, r :: rs, ρ => putAll is rs (ρ.set i (some r))
  | _, _, ρ => ρ
def putAllV : List Nat → List V → L2.St → L2.St
  | i :: is, v :: vs, σ => putAllV is vs (σ.set i (some v))
  | _, _, σ => σ
theorem RepRs.set {K : PySem.W.Frag} {Fo A H : Hp} {σ : L2.St} {ρ : Slots} {i : Nat} {v : V} {r : R} (hi : i < ρ.length) (own : ∀ m, r = .own m → ∃ a, v = .ref a) : ∀ {vs : List V} {rs : List R}, RepRs K Fo A H σ ρ vs rs → (∀ a m, r = .own m → v = .ref a → NotOf a vs rs) → RepRs K Fo A H (σ.set i (some v)) (ρ.set i (some r)) vs rs
  | _, _, .nil, _ => .nil
  | _, _, .val h q, nf => .val h (q.set hi own fun a m e1 e2 => nf a m e1 e2)
  | _, _, .own (a := b) h1 h2 h3 h4 h5 h6 q, nf => by
    refine .own h1 h2 h3 h4 (fun j m' e1 e2 => ?_) h6 (q.set hi own fun a m e1 e2 => (nf a m e1 e2).2)
    by_cases hij : i = j
    · subst hij
      rw [List.getElem?_set_self hi] at e1
      cases e1
      obtain ⟨a, rfl⟩ := own m' rfl
      have := (nf a m' rfl rfl).1
      rw [List.getElem?_set] at e2
      split at e2
      · split at e2
        · cases e2; exact this rfl
        · cases e2
      · rename_i z; exact z rfl
    · rw [List.getElem?_set_ne hij] at e1 e2
      exact h5 j m' e1 e2
theorem sat_putAll {K : PySem.W.Frag} {Fo A H : Hp} : ∀ {is : List Nat} {vs : List V} {rs : List R} {σ : L2.St} {ρ : Slots}, (∀ i ∈ is, i < ρ.length) → Sat K Fo A H σ ρ → RepRs K Fo A H σ ρ vs rs → Sat K Fo A H (putAllV is vs σ) (putAll is rs ρ)
  | [], vs, rs, σ, ρ, _, S, r => by cases r <;> exact S
  | i :: is, _, _, σ, ρ, hi, S, .nil => S
  | i :: is, _, _, σ, ρ, hi, S, .val h q => by
    have hi0 := hi i List.mem_cons_self
    exact sat_putAll (is := is) (fun j hj => by rw [List.length_set]; exact hi j (List.mem_cons_of_mem _ hj)) (S.setD h) (q.set hi0 (fun m e => by cases e) fun a m e => by cases e)
  | i :: is, _, _, σ, ρ, hi, S, .own (a := a) h1 h2 h3 h4 h5 h6 q => by
    have hi0 := hi i List.mem_cons_self
    exact sat_putAll (is := is) (fun j hj => by rw [List.length_set]; exact hi j (List.mem_cons_of_mem _ hj)) (S.setR (.own h1 h2 h3 h4 h5)) (q.set hi0 (fun m e => ⟨a, rfl⟩) fun b m e1 e2 => by cases e2; exact h6)
def sPar (is : List Nat) (ds : List DEn) : DSt := fun ρ => match runRs ds ρ with
  | .ok rs ρ1 => if is.all (fun i => decide (i < ρ1.length)) && decide (rs.length = is.length) then .nx (putAll is rs ρ1) else .bad
  | .exc x ρ1 => .exc x ρ1
  | .bad => .bad
theorem RepRs.length {K : PySem.W.Frag} {Fo A H : Hp} {σ : L2.St} {ρ : Slots} : ∀ {vs : List V} {rs : List R}, RepRs K Fo A H σ ρ vs rs → vs.length = rs.length
  | _, _, .nil => rfl
  | _, _, .val _ r => congrArg Nat.succ r.length
  | _, _, .own _ _ _ _ _ _ r => congrArg Nat.succ r.length
theorem keep_putAll {P : List Nat} : ∀ {is : List Nat} {vs : List V} {σ : L2.St}, (∀ i ∈ is, i ∉ P) → Keep P σ (putAllV is vs σ)
  | [], vs, σ, _ => Keep.refl _ _
  | i :: is, [], σ, _ => Keep.refl _ _
  | i :: is, v :: vs, σ, h => (Keep.set (h i List.mem_cons_self)).trans (keep_putAll fun j hj => h j (List.mem_cons_of_mem _ hj))
theorem rs_then {D' : Ends} {K : PySem.W.Frag} {Fo A : Hp} {σ : L2.St} {ρ : Slots} {is : List Nat} {ds : List DEn} {Q : List V → Hp → Prop} (hP : ∀ i ∈ is, i ∉ P) (p : PostS K W P Fo A σ (sPar is ds ρ) D')
    (q : ∀ vs H', vs.length = is.length → (∀ (o : HO) (p : Addr), H' p = none → D'.nx (putAllV is vs σ) (upd H' p o)) → D'.nx (putAllV is vs σ) H' → Q vs H') : PostRs K W Fo A σ (runRs ds ρ) Q := by
  unfold sPar at p
  cases hr : runRs ds ρ with
  | bad => rw [hr] at p; exact p
  | exc x ρ1 => rw [hr] at p; exact fun cls dct A' H' e S rx => (show ∀ cls dct σ' A' H', Keep P σ σ' → Ex A A' → Sat K Fo A' H' σ' ρ1 → RepX K A' cls dct x → W cls dct σ' H' from p) cls dct σ A' H' (Keep.refl _ _) e S rx
  | ok rs ρ1 =>
    rw [hr] at p
    obtain ⟨hc, p⟩ := ifB (P := fun z : SRes => PostS K W P Fo A σ z D') p (fun z => z)
    obtain ⟨c1, c2⟩ := Bool.and_eq_true_iff.mp hc
    intro vs A' H' e S ra
    have hi : ∀ i ∈ is, i < ρ1.length := fun i hi => of_decide_eq_true (List.all_eq_true.mp c1 i hi)
    have S2 := sat_putAll (is := is) hi S ra
    exact q vs H' (ra.length.trans (of_decide_eq_true c2)) (fun o p0 hp => p _ A' _ (keep_putAll hP) e (S2.fresh hp)) (p _ A' H' (keep_putAll hP) e S2)
theorem ds_parR2 {i j : Nat} {x y : Str} {a b : Expr} {ds : List DEn} {px py pt pos : Pos} {kt k2 pt2} (hc : X.calm = true) (hN : X.N.Nodup) (hi : X.N[i]? = some x) (hj : X.N[j]? = some y) (hij : i ≠ j) (hPi : i ∉ P) (hPj : j ∉ P)
    (hx : X.env.scope.names.lookup x = some .local) (hy : X.env.scope.names.lookup y = some .local) (ha : DRs X W [a, b] ds)
    (hw : swappedStores [.Tuple [.Name x px, .Name y py] kt pt] (.Tuple [a, b] k2 pt2) X.env = pure (some [x, y]))
    (hs : swapsWithSole [.Tuple [.Name x px, .Name y py] kt pt] (.Tuple [a, b] k2 pt2) pos.line X.env = pure false := by rfl) :
    DS X W P (.Assign [.Tuple [.Name x px, .Name y py] kt pt] (.Tuple [a, b] k2 pt2) pos) (sPar [i, j] ds) :=
  PS.weak (ps_par hc hN hi hj hij hx hy ha hw hs) fun D σ H ⟨Fo, A, ρ, S, p⟩ => ⟨Fo, A, ρ, S, rs_then (by simp; exact ⟨hPi, hPj⟩) p fun vs H' hl _ q => by
    match vs, hl with
    | [v, w], _ => exact ⟨v, w, rfl, q⟩⟩
theorem ds_parR3 {i j l : Nat} {x y z : Str} {a b c : Expr} {ds : List DEn} {px py pz pt pos : Pos} {kt k2 pt2} (hc : X.calm = true) (hN : X.N.Nodup) (hi : X.N[i]? = some x) (hj : X.N[j]? = some y) (hl : X.N[l]? = some z) (hij : i ≠ j) (hil : i ≠ l) (hjl : j ≠ l) (hPi : i ∉ P) (hPj : j ∉ P) (hPl : l ∉ P)
    (hx : X.env.scope.names.lookup x = some .local) (hy : X.env.scope.names.lookup y = some .local) (hz : X.env.scope.names.lookup z = some .local) (ha : DRs X W [a, b, c] ds)
    (hw : swappedStores [.Tuple [.Name x px, .Name y py, .Name z pz] kt pt] (.Tuple [a, b, c] k2 pt2) X.env = pure (some [x, y, z]))
    (hs : swapsWithSole [.Tuple [.Name x px, .Name y py, .Name z pz] kt pt] (.Tuple [a, b, c] k2 pt2) pos.line X.env = pure false := by rfl) :
    DS X W P (.Assign [.Tuple [.Name x px, .Name y py, .Name z pz] kt pt] (.Tuple [a, b, c] k2 pt2) pos) (sPar [i, j, l] ds) :=
  PS.weak (ps_par3 hc hN hi hj hl hij hil hjl hx hy hz ha hw hs) fun D σ H ⟨Fo, A, ρ, S, p⟩ => ⟨Fo, A, ρ, S, rs_then (by simp; exact ⟨hPi, hPj, hPl⟩) p fun vs H' hl _ q => by
    match vs, hl with
    | [v, w, u], _ => exact ⟨v, w, u, rfl, q⟩⟩
/-- names stored one by one -/
inductive PNs (X : Cx) : List Expr → List Nat → Prop
  | nil : PNs X [] []
  | cons {x : Str} {p : Pos} {i : Nat} {es : List Expr} {is : List Nat} : PG X (.Name x p) (gName i) → PNs X es is → ((assignEach (.Name x p :: es) X.env).map (·.2) = assign (.Name x p) X.env :: (assignEach es X.env).map (·.2)) → PNs X (.Name x p :: es) (i :: is)
def gNs (is : List Nat) : TGs := fun vs σ H Q => vs.length = is.length ∧ Q (putAllV is vs σ) H
theorem PNs.pgs : ∀ {es : List Expr} {is : List Nat}, PNs X es is → PGs X es (gNs is)
  | _, _, .nil => ⟨fun pins s σ H vs us Q I r ⟨hl, h⟩ => by
    cases vs with
    | nil => exact pgs_nil.run pins s σ H [] us Q I r ⟨rfl, h⟩
    | cons _ _ => cases hl⟩
  | _, _, .cons hg r hs => ⟨fun pins s σ H vs us Q I rv ⟨hl, h⟩ => by
    cases vs with
    | nil => cases hl
    | cons v vs => exact (pgs_cons hg r.pgs hs).run pins s σ H (v :: vs) us Q I rv ⟨v, vs, rfl, by simpa using hl, h⟩⟩
/-- more than three: by a tuple that is made and taken apart -/
theorem ds_parT {ts es : List Expr} {is : List Nat} {ds : List DEn} {pt pos pt2 : Pos} {kt k2} (hc : X.calm = true) (hP : ∀ i ∈ is, i ∉ P) (ha : DRs X W es ds) (hn : PNs X ts is) (hz : is.length ≤ sizeLine)
    (hl : (assignEach ts X.env).length = is.length := by rfl) (hst : (assignEach ts X.env).findIdx? (·.1) = none := by rfl)
    (hs : swapsWithSole [.Tuple ts kt pt] (.Tuple es k2 pt2) pos.line X.env = pure false := by rfl) (hw : swappedStores [.Tuple ts kt pt] (.Tuple es k2 pt2) X.env = pure none := by rfl)
    (h1 : (assignEach [.Tuple ts kt pt] X.env).map (·.2) = [assign (.Tuple ts kt pt) X.env] := by rfl) :
    DS X W P (.Assign [.Tuple ts kt pt] (.Tuple es k2 pt2) pos) (sPar is ds) :=
  PS.weak (ps_asg (pe_tup ha) (pg_tup hc hn.pgs hl hst) hs hw h1) fun D σ H ⟨Fo, A, ρ, S, p⟩ => ⟨Fo, A, ρ, S, rs_then hP p fun vs H' hl q _ => ⟨by rw [hl]; exact hz, fun p0 hp => ⟨p0, vs, rfl, .inl (.inl upd_same), hl, hl, q _ p0 hp⟩⟩⟩
end
end DL

set_option maxRecDepth 100000
set_option maxHeartbeats 2000000
/-! DL28: numbers as texts, texts joined and split, in plain Lean. -/
namespace DL
open PySem PySem.Spec L2 TL
abbrev big60 : Nat := 1000000000000000000000000000000000000000000000000000000000000
def tS (n : Nat) : Str := Str.ofString (toString ((n : Nat) : Int))
theorem tl_tS (n : Nat) : tl (tS n) = numL n := tl_num n
theorem log_lt {n k : Nat} (h : n < 2 ^ k) (hk : 0 < k) : n.log2 < k := by
  rcases Nat.eq_zero_or_pos n with rfl | hp
  · simpa using hk
  · exact (Nat.log2_lt (by omega)).mpr h
theorem log60 {n : Nat} (h : n < big60) : n.log2 < 200 := log_lt (by unfold big60 at h; omega) (by decide)
theorem gStr_n {n : Nat} (h : n < big60) : gStr [.int (n : Int)] = .ok (.val (.str (tS n))) := by
  have h1 : n.log2 < 1920 := by have := log60 h; omega
  simp only [gStr, Int.natAbs_natCast]
  rw [if_pos h1]
  rfl
theorem tS_len {n : Nat} (h : n < big60) : (tS n).length ≤ 60 := by
  rw [len_tl, tl_tS]
  exact numL_len (by decide) (by unfold big60 at h; omega)
theorem int_tS {n : Nat} (h : n < big60) : gInt [.str (tS n)] = .ok (.val (.int n)) := by
  have l := tS_len h
  have l2 : (numL n).length ≤ 4300 := by
    have := l
    rw [len_tl, tl_tS] at this
    omega
  have e : PySem.intText? (tS n) = some (n : Int) := int_num l2
  simp only [gInt, e]
  rw [if_pos (by omega)]
theorem strsOf_map (ys : List Str) : strsOf (ys.map D.str) = some ys := by
  induction ys with
  | nil => rfl
  | cons a t ih => simp [strsOf, ih]
theorem sum_len_le {k : Nat} : ∀ {ys : List Str}, (∀ y ∈ ys, y.length ≤ k) → (ys.map (·.length)).sum ≤ ys.length * k
  | [], _ => by simp
  | y :: ys, h => by
    have h1 := h y List.mem_cons_self
    have h2 := sum_len_le fun z hz => h z (List.mem_cons_of_mem _ hz)
    simp only [List.map_cons, List.sum_cons, List.length_cons, Nat.add_mul, Nat.one_mul]
    omega
theorem join_len {y : Str} {ys : List Str} {k : Nat} (h : ∀ z ∈ ys, z.length ≤ k) : (Txt.join y ys).length ≤ ys.length * (k + y.length) := by
  have := StrLaws.join_length_le y ys
  rw [join_eq]
  have := sum_len_le h
  rw [Nat.mul_add]
  omega
theorem gJoin_map {y : Str} {ys : List Str} (h : (ys.map (·.length)).sum + ys.length * y.length ≤ 16777216) : gJoin y (.lst (ys.map D.str)) = .ok (.val (.str (Txt.join y ys))) := by
  simp only [gJoin, DL.joinL, strsOf_map]
  rw [if_pos h]
theorem gSplit_join {y : Str} {s : Nat} (ey : tl y = [s]) (hs : s < 256) {ys : List Str} (hne : ys ≠ []) (hp : ∀ p ∈ ys, s ∉ tl p) (hl : (Txt.join y ys).length + 2 ≤ sizeLine) : gSplit (Txt.join y ys) (.str y) = .ok (.own (.lst (ys.map D.str))) := by
  have h1 : y.length = 1 := by rw [len_tl, ey]; rfl
  have h2 : y.cps.all (· < 256) = true := by
    have : y.cps.toList = [s] := ey
    rw [← Array.all_toList, this]
    simpa using hs
  simp only [gSplit]
  rw [if_pos ⟨by rw [h1]; rfl, hl⟩, TL.split_join ey h2 hne hp]
theorem tl_space : tl (Str.ofString " ") = [32] := by rw [tl_ofString]; rfl
theorem tl_line : tl (Str.ofString "\n") = [10] := by rw [tl_ofString]; rfl
theorem tl_minus : tl (Str.ofString "-") = [45] := by rw [tl_ofString]; rfl
theorem tl_digits : tl (Str.ofString "0123456789") = [48, 49, 50, 51, 52, 53, 54, 55, 56, 57] := by rw [tl_ofString]; rfl
theorem tl_zero : tl (Str.ofString "0") = [48] := by rw [tl_ofString]; rfl
theorem tS_free {n s : Nat} (h : s < 48 ∨ 57 < s) : s ∉ tl (tS n) := by rw [tl_tS]; exact numL_free h
theorem tl_inj {a b : Str} (h : tl a = tl b) : a = b := by
  have := map_tl_inj (l := [a]) (m := [b]) (by simp [h])
  simpa using this
/-! ### numerals -/
theorem numL_head : ∀ {n : Nat}, 0 < n → ∀ {c : Nat} {t : List Nat}, numL n = c :: t → c ≠ 48 := by
  intro n
  induction n using Nat.strongRecOn with
  | _ n ih =>
    intro hp c t e
    by_cases h : n < 10
    · rw [numL_lt h] at e
      cases e
      omega
    · rw [numL_step (by omega)] at e
      cases e2 : numL (n / 10) with
      | nil => exact absurd e2 (numL_ne _)
      | cons d u =>
        rw [e2] at e
        cases e
        exact ih (n / 10) (by omega) (by omega) e2
theorem chars_tl (z : Str) : chars z = (tl z).map fun c => D.str ⟨#[c]⟩ := rfl
theorem in_digits {c : Nat} (h : 48 ≤ c ∧ c ≤ 57) : gIn (.str ⟨#[c]⟩) (.str "0123456789") = .ok (.val (.bl true)) := by
  have e : (Str.ofString "0123456789").cps.toList = [48, 49, 50, 51, 52, 53, 54, 55, 56, 57] := tl_digits
  have m : c ∈ [48, 49, 50, 51, 52, 53, 54, 55, 56, 57] := by simp; omega
  simp only [gIn, inS]
  rw [e]
  simp [m]
end DL

set_option maxRecDepth 100000
set_option maxHeartbeats 2000000
/-! DL29: comprehensions over a list that is itself a map. -/
namespace DL
open PySem PySem.Spec L2
theorem runLc_mapG {α : Type} {vs : List Nat} {tg : Tg} {te : DEn} {ρ : Slots} {g f : α → D} : ∀ (xs : List α) (acc : List D), (∀ x ∈ xs, ∃ ρ0 ρ2 r, tg.asg (g x) ρ = some ρ0 ∧ te ρ0 = .ok r ρ2 ∧ r.toD = f x ∧ wipeD ρ2 vs = ρ) → acc.length + xs.length ≤ sizeLine → runLc vs tg (dC (.bl true)) te (xs.map g) ρ acc = .ok (.own (.lst (acc ++ xs.map f))) ρ
  | [], acc, _, _ => by simp [runLc]
  | x :: xs, acc, h, hl => by
    obtain ⟨ρ0, ρ2, r, h1, h2, h3, h4⟩ := h x List.mem_cons_self
    have ih := runLc_mapG (vs := vs) (tg := tg) (te := te) (ρ := ρ) (g := g) (f := f) xs (acc ++ [f x]) (fun y hy => h y (List.mem_cons_of_mem _ hy)) (by simp at hl ⊢; omega)
    have hlt : acc.length < sizeLine := by simp at hl; omega
    have e : (te ρ0).noX.bind (fun y ρ2 => if acc.length < sizeLine then runLc vs tg (dC (.bl true)) te (xs.map g) (wipeD ρ2 vs) (acc ++ [y]) else .bad) = runLc vs tg (dC (.bl true)) te (xs.map g) ρ (acc ++ [f x]) := by
      rw [h2]
      cases r with
      | val d => simp [hlt, h4]; simp at h3; rw [h3]
      | own m => simp [hlt, h4]; simp at h3; rw [h3]
    show (match tg.asg (g x) ρ with
      | none => ERes.bad
      | some ρ0 => ((dC (.bl true)) ρ0).noX.bind fun b ρ1 => match b with
        | .bl true => (te ρ1).noX.bind fun y ρ2 => if acc.length < sizeLine then runLc vs tg (dC (.bl true)) te (xs.map g) (wipeD ρ2 vs) (acc ++ [y]) else .bad
        | .bl false => runLc vs tg (dC (.bl true)) te (xs.map g) (wipeD ρ1 vs) acc
        | _ => .bad) = _
    rw [h1]
    simp only [dC_ok, noX_ok, bind_val]
    rw [e, ih]
    simp
theorem sFor_of {src : DSrc} {tg : Tg} {body : DSt} {ρ ρ1 : Slots} {ds : List D} {r : SRes} (h : src ρ = .ok ds ρ1) (h2 : runFor tg body ds ρ1 = r) : sFor src tg body ρ = r := by
  unfold sFor
  rw [h]
  exact h2
theorem runLc2_mapG {α : Type} {vs vs1 : List Nat} {tg tg1 : Tg} {src1 : DSrc} {tt1 te : DEn} {ρ : Slots} {g : α → D} {F : α → List D} {k : Nat} : ∀ (xs : List α) (acc : List D), (∀ x ∈ xs, (F x).length ≤ k ∧ ∀ acc : List D, acc.length + k ≤ sizeLine → ∃ ρ0 ds ρ2 ρ3, tg.asg (g x) ρ = some ρ0 ∧ src1 ρ0 = .ok ds ρ2 ∧ runLc vs1 tg1 tt1 te ds (wipeD ρ2 vs1) acc = .ok (.own (.lst (acc ++ F x))) ρ3 ∧ wipeD ρ3 vs = ρ) → acc.length + xs.length * k ≤ sizeLine → runLc2 vs vs1 tg (dC (.bl true)) src1 tg1 tt1 te (xs.map g) ρ acc = .ok (.own (.lst (acc ++ (xs.map F).flatten))) ρ
  | [], acc, _, _ => by simp [runLc2]
  | x :: xs, acc, h, hl => by
    obtain ⟨hk, hx⟩ := h x List.mem_cons_self
    have hl' : acc.length + (xs.length * k + k) ≤ sizeLine := by rw [List.length_cons, Nat.add_mul, Nat.one_mul] at hl; exact hl
    obtain ⟨ρ0, ds, ρ2, ρ3, h1, h2, h3, h4⟩ := hx acc (by omega)
    have ih := runLc2_mapG (vs := vs) (vs1 := vs1) (tg := tg) (tg1 := tg1) (src1 := src1) (tt1 := tt1) (te := te) (ρ := ρ) (g := g) (F := F) (k := k) xs (acc ++ F x) (fun y hy => h y (List.mem_cons_of_mem _ hy)) (by rw [List.length_append]; omega)
    rw [List.map_cons]
    unfold runLc2
    rw [h1]
    simp only [dC_ok, noX_ok, bind_val, h2, h3, h4]
    rw [ih]
    simp
end DL

set_option maxRecDepth 100000
set_option maxHeartbeats 2000000
/-! DL30: a part of a tuple. -/
namespace DL
open PySem PySem.Spec L2
open Evl (Ex)
variable {X : Cx} {W : WX}
def gSlT (x : D) (lo hi : Option Int) : VRes := match x with
  | .tup xs => if HT.sIx xs.length 0 lo = 0 ∧ HT.sIx xs.length xs.length hi = xs.length then .bad else .ok (.val (.tup (cutD xs lo hi)))
  | _ => .bad
def dSlT (da : DEn) (lo hi : PtD) : DEn := fun ρ => (da ρ).bind fun x ρ1 => lo.run ρ1 fun l ρ2 => hi.run ρ2 fun u ρ3 => (gSlT x l u).at ρ3
theorem de_slT {a : Expr} {da : DEn} {lo hi : Option Expr} {dl dh : PtD} {pos p2 : Pos} (ha : DE X W a da) (hl : DO X W lo dl) (hu : DO X W hi dh) : DE X W (.Subscript a (.Slice lo hi none p2) pos) (dSlT da dl dh) := by
  refine PE.weak (pe_slice sl_tup ha hl hu) fun σ H Q ⟨Fo, A, ρ, S, p⟩ => ?_
  refine ⟨Fo, A, ρ, S, post_bind p fun x dx A1 H1 ρ1 e1 S1 r1 p1 => ⟨Fo, A1, ρ1, S1, _, Q, p1, fun l A2 H2 ρ2 e2 S2 p2 => ⟨Fo, A2, ρ2, S2, _, Q, p2, fun u A3 H3 ρ3 e3 S3 p3 => ?_⟩⟩⟩
  have r3 := r1.mn (e2.trans e3)
  cases r3 with
  | @tup a vs ds h l' =>
    unfold gSlT at p3
    dsimp only at p3
    by_cases hw : HT.sIx ds.length 0 l = 0 ∧ HT.sIx ds.length ds.length u = ds.length
    · rw [if_pos hw] at p3; exact p3.elim
    · rw [if_neg hw] at p3
      exact ⟨a, vs, rfl, Evl.ex_t S3.ex h, by rw [l'.length]; exact hw, fun q hq => Post.newT p3 S3 hq (l'.cut _ _)⟩
  | _ => exact p3.elim
end DL

set_option maxRecDepth 100000
set_option maxHeartbeats 2000000
/-! DL31: comprehensions with a test; with an own list that is frozen at the first turn. -/
namespace DL
open PySem PySem.Spec L2
theorem runLc_filG {α : Type} {vs : List Nat} {tg : Tg} {tt te : DEn} {ρ : Slots} {g f : α → D} {b : α → Bool} : ∀ (xs : List α) (acc : List D), (∀ x ∈ xs, ∃ ρ0 ρ1, tg.asg (g x) ρ = some ρ0 ∧ tt ρ0 = .ok (.val (.bl (b x))) ρ1 ∧ wipeD ρ1 vs = ρ ∧ ∃ ρ2 r, te ρ1 = .ok r ρ2 ∧ r.toD = f x ∧ wipeD ρ2 vs = ρ) → acc.length + xs.length ≤ sizeLine → runLc vs tg tt te (xs.map g) ρ acc = .ok (.own (.lst (acc ++ (xs.filter b).map f))) ρ
  | [], acc, _, _ => by simp [runLc]
  | x :: xs, acc, h, hl => by
    obtain ⟨ρ0, ρ1, h1, h2, h3, ρ2, r, h4, h5, h6⟩ := h x List.mem_cons_self
    have hl' : acc.length + (xs.length + 1) ≤ sizeLine := hl
    have hlt : acc.length < sizeLine := by omega
    have ih := fun acc' (ha : acc'.length ≤ acc.length + 1) => runLc_filG (vs := vs) (tg := tg) (tt := tt) (te := te) (ρ := ρ) (g := g) (f := f) (b := b) xs acc' (fun y hy => h y (List.mem_cons_of_mem _ hy)) (by omega)
    show (match tg.asg (g x) ρ with
      | none => ERes.bad
      | some ρ0 => (tt ρ0).noX.bind fun b ρ1 => match b with
        | .bl true => (te ρ1).noX.bind fun y ρ2 => if acc.length < sizeLine then runLc vs tg tt te (xs.map g) (wipeD ρ2 vs) (acc ++ [y]) else .bad
        | .bl false => runLc vs tg tt te (xs.map g) (wipeD ρ1 vs) acc
        | _ => .bad) = _
    rw [h1]
    dsimp only
    rw [h2]
    simp only [noX_ok, bind_val]
    cases hb : b x with
    | false =>
      simp only
      rw [h3, ih acc (by omega), List.filter_cons, hb]
      rfl
    | true =>
      simp only
      rw [h4]
      have e : (ERes.ok r ρ2).noX.bind (fun y ρ2 => if acc.length < sizeLine then runLc vs tg tt te (xs.map g) (wipeD ρ2 vs) (acc ++ [y]) else .bad) = runLc vs tg tt te (xs.map g) ρ (acc ++ [f x]) := by
        cases r with
        | val d => simp [hlt, h6]; simp at h5; rw [h5]
        | own m => simp [hlt, h6]; simp at h5; rw [h5]
      rw [e, ih _ (by rw [List.length_append]; exact Nat.le_refl _), List.filter_cons, hb]
      simp
theorem runLc_mapF {α : Type} {vs : List Nat} {tg : Tg} {te : DEn} {ρ' : Slots} {g f : α → D} : ∀ (xs : List α) (ρ : Slots) (acc : List D), (∀ x ∈ xs, ∀ σ, σ = ρ ∨ σ = ρ' → ∃ ρ0 ρ2 r, tg.asg (g x) σ = some ρ0 ∧ te ρ0 = .ok r ρ2 ∧ r.toD = f x ∧ wipeD ρ2 vs = ρ') → acc.length + xs.length ≤ sizeLine → ∃ ρe, runLc vs tg (dC (.bl true)) te (xs.map g) ρ acc = .ok (.own (.lst (acc ++ xs.map f))) ρe
  | [], ρ, acc, _, _ => ⟨ρ, by simp [runLc]⟩
  | x :: xs, ρ, acc, h, hl => by
    obtain ⟨ρ0, ρ2, r, h1, h2, h3, h4⟩ := h x List.mem_cons_self ρ (.inl rfl)
    have hl' : acc.length + (xs.length + 1) ≤ sizeLine := hl
    have hlt : acc.length < sizeLine := by omega
    obtain ⟨ρe, ih⟩ := runLc_mapF (vs := vs) (tg := tg) (te := te) (ρ' := ρ') (g := g) (f := f) xs ρ' (acc ++ [f x]) (fun y hy σ hσ => h y (List.mem_cons_of_mem _ hy) σ (.inr (hσ.elim id id))) (by rw [List.length_append, List.length_singleton]; omega)
    refine ⟨ρe, ?_⟩
    have e : (te ρ0).noX.bind (fun y ρ2 => if acc.length < sizeLine then runLc vs tg (dC (.bl true)) te (xs.map g) (wipeD ρ2 vs) (acc ++ [y]) else .bad) = runLc vs tg (dC (.bl true)) te (xs.map g) ρ' (acc ++ [f x]) := by
      rw [h2]
      cases r with
      | val d => simp [hlt, h4]; simp at h3; rw [h3]
      | own m => simp [hlt, h4]; simp at h3; rw [h3]
    show (match tg.asg (g x) ρ with
      | none => ERes.bad
      | some ρ0 => ((dC (.bl true)) ρ0).noX.bind fun b ρ1 => match b with
        | .bl true => (te ρ1).noX.bind fun y ρ2 => if acc.length < sizeLine then runLc vs tg (dC (.bl true)) te (xs.map g) (wipeD ρ2 vs) (acc ++ [y]) else .bad
        | .bl false => runLc vs tg (dC (.bl true)) te (xs.map g) (wipeD ρ1 vs) acc
        | _ => .bad) = _
    rw [h1]
    simp only [dC_ok, noX_ok, bind_val]
    rw [e, ih]
    simp
theorem nL_map {α : Type} {F : α → Nat} {xs : List α} : (xs.map fun x => nD (F x)) = nL (xs.map F) := by
  unfold nL
  rw [List.map_map]
  rfl
end DL

set_option maxRecDepth 100000
set_option maxHeartbeats 2000000
/-! DL32: a new own thing handed to a def that changes it. -/
namespace DL
open PySem PySem.Spec L2
open Evl (Ex)
def callF (c : DEn) (m : M) (ρ : Slots) : ERes := match callAt c [.l ρ.length] (ρ ++ [some (.own m)]) with
  | .ok (.val d) ρ2 => .ok (.val d) (ρ2.take ρ.length)
  | .ok _ _ => .bad
  | .exc x ρ2 => .exc x (ρ2.take ρ.length)
  | .bad => .bad
def dCallF (c d : DEn) : DEn := fun ρ => match d ρ with
  | .ok (.own m) ρ1 => callF c m ρ1
  | .ok _ _ => .bad
  | .exc x ρ1 => .exc x ρ1
  | .bad => .bad
section
variable {X : Cx} {W : WX} {x : Str} {p pos : Pos} {e : Expr} {k : Nat} {f : Addr} {c d : DEn}
theorem de_callF (F : FdOk X.prog X.w X.K X.mg X.base k f 1 c) (hr : Room k X.A) (hg : Gl X x) (hm : X.mg x = some (.ref f)) (tk : Takes X W) (he : DE X W e d)
    (hdb : (x == ("__debug__" : Str)) = false := by decide) (hs : starEach [e] X.env = (false, eval e X.env) :: starEach [] X.env := by rfl) (hpl : (backTo pos (starEach [] X.env)).any (·.1) = false := by rfl) :
    DE X W (.Call (.Name x p) [e] [] pos) (dCallF c d) := by
  obtain ⟨fd, ps, F, hb, hk⟩ := F
  refine PE.weak (pe_callS F hr hg hm hk hb (fun σ => passAt tk σ) (pa_cons he pa_nil hs) hdb hs hpl) fun σ H Q ⟨Fo, A, ρ, S, p⟩ => ⟨Fo, A, ρ, S, ?_⟩
  unfold dCallF at p
  cases hd : d ρ with
  | bad => rw [hd] at p; exact p
  | exc x ρ1 => rw [hd] at p; exact p
  | ok r ρ1 =>
    rw [hd] at p
    intro v A' H' e' S' rv
    cases r with
    | val q => exact p.elim
    | own m =>
      replace p : Post X.K W Fo A σ (callF c m ρ1) Q := p
      replace p := Post.ext p e'
      obtain ⟨a, rfl⟩ : ∃ a, v = .ref a := by cases rv; exact ⟨_, rfl⟩
      have S3 : Sat X.K Fo A' H' (σ ++ [some (.ref a)]) (ρ1 ++ [some (.own m)]) := by
        cases rv with
        | @own _ o _ h1 h2 h3 h4 h5 => exact Sat.push (o := o) S' (.own h1 h2 h3 h4 h5)
      have ra3 : RepAs X.K A' (σ ++ [some (V.ref a)]) [.ref a] [.l ρ1.length] := .l (by rw [← S'.len, List.getElem?_append_right (Nat.le_refl _)]; simp) .nil
      have tkl : ∀ {A' H' : Hp} {ρ2 : Slots}, Sat X.K Fo A' H' (σ ++ [some (V.ref a)]) ρ2 → Sat X.K Fo A' H' σ (ρ2.take ρ1.length) := fun {A' H' ρ2} S'' => by rw [← S'.len]; exact S''.pop
      have wish : WE W σ = WE (fun cls d _ H => W cls d σ H) (σ ++ [some (V.ref a)]) := rfl
      show spD X.K 1 c [.ref a] H' Q (WE W σ)
      rw [wish]
      refine sp_call S3 ra3 rfl ?_
      unfold callF at p
      cases hc : callAt c [.l ρ1.length] (ρ1 ++ [some (.own m)]) with
      | bad => rw [hc] at p; exact p
      | exc x ρ2 => rw [hc] at p; exact fun cls dct A2 H2 e2 S2 rx => p cls dct A2 H2 e2 (tkl S2) rx
      | ok r ρ2 =>
        rw [hc] at p
        cases r with
        | own q => exact p.elim
        | val q => exact fun v A2 H2 e2 S2 r2 => p v A2 H2 e2 (tkl S2) (by cases r2 with | val h => exact .val h)
end
end DL

set_option maxRecDepth 100000
set_option maxHeartbeats 2000000
/-! DL33: a, b = a list. -/
namespace DL
open PySem PySem.Spec L2
open Evl (Ex)
section
variable {X : Cx} {W : WX} {P : List Nat}
def sUnpL (ts : Tgs) (d : DEn) : DSt := fun ρ => (d ρ).asVal.thenS fun r ρ1 => match r with
  | .val (.lst ds) => if ds.length = ts.length then (match ts.asg ds ρ1 with
    | some ρ2 => .nx ρ2
    | none => .bad) else .bad
  | _ => .bad
theorem ds_unpL {es : List Expr} {e : Expr} {k : Nat} {ts : Tgs} {d : DEn} {tp pos : Pos} (hc : X.calm = true) (he : DE X W e d) (hg : DGs X es ts) (hP : ∀ i ∈ (Tg.tup ts).slots, i ∉ P) (hs : swapsWithSole [.Tuple es k tp] e pos.line X.env = pure false := by rfl) (hw : swappedStores [.Tuple es k tp] e X.env = pure none := by rfl)
    (h1 : (assignEach [.Tuple es k tp] X.env).map (·.2) = [assign (.Tuple es k tp) X.env] := by rfl) (hn : (assignEach es X.env).length = ts.length := by rfl) (hst : (assignEach es X.env).findIdx? (·.1) = none := by rfl) : DS X W P (.Assign [.Tuple es k tp] e pos) (sUnpL ts d) :=
  PS.weak (ps_asg he (pg_lst hc hg hn hst) hs hw h1) fun D σ H ⟨Fo, A, ρ, S, p⟩ => ⟨Fo, A, ρ, S, Post.asVal (post_then p fun v r A1 H1 ρ1 e1 S1 rv q => by
    cases rv with
    | own => exact q.elim
    | val rv =>
      cases rv with
      | @lst a vs ds h l =>
        by_cases hl : ds.length = ts.length
        · dsimp only at q
          rw [if_pos hl] at q
          cases ha : ts.asg ds ρ1 with
          | none => rw [ha] at q; exact q.elim
          | some ρ2 =>
            rw [ha] at q
            exact ⟨a, vs, rfl, .inl (.inl (S1.ex _ _ h)), by rw [l.length]; exact hl, Fo, A1, ρ1, ds, ρ2, S1, l, ha, fun σ' S2 off => q σ' A1 H1 (off.keep hP) (Ex.refl _) S2⟩
        · dsimp only at q
          rw [if_neg hl] at q
          exact q.elim
      | _ => exact q.elim)⟩
end
end DL

set_option maxRecDepth 100000
set_option maxHeartbeats 2000000
/-! DL34: dicts with whole numbers or texts as keys: made, read, asked, written. -/
namespace DL
open PySem PySem.Spec L2
open Evl (Ex)
def keyD : D → Option Key
  | .int i => some (.inl i)
  | .str s => some (.inr s)
  | _ => none
def dicAt : List Key → List D → Key → Option D
  | k' :: ks, x :: xs, k => if k' = k then some x else dicAt ks xs k
  | _, _, _ => none
def keysPut (ks : List Key) (k : Key) : List Key := if (ks.any fun j => decide (j = k)) = true then ks else ks ++ [k]
def put1 : List Key → List D → Key → D → List D
  | k' :: ks, x :: xs, k, d => (if k' = k then d else x) :: put1 ks xs k d
  | _, _, _, _ => []
def valsPut (ks : List Key) (xs : List D) (k : Key) (d : D) : List D := if (ks.any fun j => decide (j = k)) = true then put1 ks xs k d else xs ++ [d]
section
variable {K : PySem.W.Frag} {A : Hp}
theorem key_ofD {v : V} {d : D} {k : Key} (r : Rep K A v d) (h : keyD d = some k) : v = kV k := by
  cases r <;> first
    | (cases h; rfl)
    | cases h
theorem dic_some {k : Key} {d : D} : ∀ {kvs : List (Key × V)} {xs : List D}, RepL K A (kvs.map (·.2)) xs → dicAt (kvs.map (·.1)) xs k = some d → ∃ v, valV kvs k = some v ∧ Rep K A v d
  | [], _, _, h => by simp [dicAt] at h
  | p :: kvs, [], r, h => by cases r
  | p :: kvs, x :: xs, r, h => by
    cases r with
    | cons r0 r =>
      simp only [List.map_cons, dicAt] at h
      by_cases e : p.1 = k
      · rw [if_pos e] at h; cases h
        exact ⟨p.2, valV_pos e, r0⟩
      · rw [if_neg e] at h
        obtain ⟨v, h1, h2⟩ := dic_some r h
        exact ⟨v, by rw [valV_neg e]; exact h1, h2⟩
theorem dic_none {k : Key} : ∀ {kvs : List (Key × V)} {xs : List D}, RepL K A (kvs.map (·.2)) xs → dicAt (kvs.map (·.1)) xs k = none → valV kvs k = none
  | [], _, _, h => rfl
  | p :: kvs, [], r, h => by cases r
  | p :: kvs, x :: xs, r, h => by
    cases r with
    | cons r0 r =>
      simp only [List.map_cons, dicAt] at h
      by_cases e : p.1 = k
      · rw [if_pos e] at h; cases h
      · rw [if_neg e] at h
        rw [valV_neg e]
        exact dic_none r h
theorem dic_is {k : Key} {kvs : List (Key × V)} {xs : List D} (r : RepL K A (kvs.map (·.2)) xs) : (valV kvs k).isSome = (dicAt (kvs.map (·.1)) xs k).isSome := by
  cases h : dicAt (kvs.map (·.1)) xs k with
  | none => rw [dic_none r h]; rfl
  | some d =>
    obtain ⟨v, h1, _⟩ := dic_some r h
    rw [h1]; rfl
theorem any_map' {k : Key} (kvs : List (Key × V)) : ((kvs.map (·.1)).any fun j => decide (j = k)) = kvs.any fun kv => decide (kv.1 = k) := by
  rw [List.any_map]
  rfl
theorem put_keys (kvs : List (Key × V)) (k : Key) (v : V) : (putK kvs k v).map (·.1) = keysPut (kvs.map (·.1)) k := by
  unfold putK keysPut
  by_cases h : (kvs.any fun kv => decide (kv.1 = k)) = true
  · rw [if_pos h, if_pos ((any_map' kvs).trans h), List.map_map]
    apply List.map_congr_left
    intro p _
    show (if p.1 = k then (p.1, v) else p).1 = p.1
    split <;> rfl
  · rw [if_neg h, if_neg fun q => h ((any_map' kvs).symm.trans q), List.map_append]
    rfl
theorem put_vals {kvs : List (Key × V)} {xs : List D} {k : Key} {v : V} {d : D} (r : RepL K A (kvs.map (·.2)) xs) (rv : Rep K A v d) : RepL K A ((putK kvs k v).map (·.2)) (valsPut (kvs.map (·.1)) xs k d) := by
  unfold putK valsPut
  by_cases h : (kvs.any fun kv => decide (kv.1 = k)) = true
  · rw [if_pos h, if_pos ((any_map' kvs).trans h), List.map_map]
    clear h
    induction kvs generalizing xs with
    | nil => cases r; exact .nil
    | cons p kvs ih =>
      cases r with
      | cons r0 r =>
        refine .cons ?_ (ih r)
        show Rep K A (if p.1 = k then (p.1, v) else p).2 (if p.1 = k then d else _)
        split
        · exact rv
        · exact r0
  · rw [if_neg h, if_neg fun q => h ((any_map' kvs).symm.trans q), List.map_append]
    exact r.append (.one rv)
end
section
variable {X : Cx} {W : WX} {P : List Nat}
/-- {} -/
def dNewDic : DEn := fun ρ => .ok (.own (.dic [] [])) ρ
theorem de_newDic {pos : Pos} : DE X W (.Dict [] [] pos) dNewDic := PE.weak pe_dnewK fun σ H Q ⟨Fo, A, ρ, S, p⟩ q hq =>
  p _ A _ (Evl.Ex.refl A) (S.fresh hq) (S.newOwn hq (.dic rfl .nil))
/-- d[k], d slot i's own dict -/
def dDIx (i : Nat) (dk : DEn) : DEn := fun ρ => match ρ[i]? with
  | some (some (.own _)) => (dk ρ).bind fun y ρ1 => match ρ1[i]?, keyD y with
    | some (some (.own (.dic ks xs))), some k => (match dicAt ks xs k with
      | some d => .ok (.val d) ρ1
      | none => .bad)
    | _, _ => .bad
  | _ => .bad
theorem own_dic {K : PySem.W.Frag} {Fo A H : Hp} {σ : L2.St} {ρ : Slots} {i : Nat} {ks : List Key} {xs : List D} (S : Sat K Fo A H σ ρ) (h : ρ[i]? = some (some (R.own (.dic ks xs)))) : ∃ a kvs, σ[i]? = some (some (V.ref a)) ∧ H a = some (.dK kvs) ∧ kvs.map (·.1) = ks ∧ RepL K A (kvs.map (·.2)) xs := by
  obtain ⟨a, o, e1, e2, e3, e4, e5⟩ := S.own i _ h
  cases e5 with
  | dic n r => exact ⟨a, _, e1, e4, n, r⟩
theorem de_dix {x : Str} {i : Nat} {b : Expr} {db : DEn} {pos px : Pos} (hu : X.A.units + 1 < cLine) (ha : PE X (.Name x px) (tVar i)) (hb : DE X W b db) (hs : NoSl b := by intro _ _; rfl) : DE X W (.Subscript (.Name x px) b pos) (dDIx i db) := by
  refine PE.weak (pe_dget hu ha hb hs) fun σ H Q ⟨Fo, A, ρ, S, p⟩ => ?_
  unfold dDIx at p
  cases hi : ρ[i]? with
  | none => rw [hi] at p; exact p.elim
  | some o =>
    rw [hi] at p
    cases o with
    | none => exact p.elim
    | some r =>
      cases r with
      | val d => exact p.elim
      | own m =>
        obtain ⟨a, o, e1, e2, e3, e4, e5⟩ := S.own i m hi
        refine ⟨.ref a, e1, Fo, A, ρ, S, post_bind p fun y dy A1 H1 ρ1 x1 S1 r1 p1 => ?_⟩
        cases hj : ρ1[i]? with
        | none => rw [hj] at p1; exact p1.elim
        | some o' =>
          rw [hj] at p1
          cases o' with
          | none => exact p1.elim
          | some r' =>
            cases r' with
            | val d => exact p1.elim
            | own m' =>
              cases m' with
              | dic ks xs =>
                obtain ⟨b', kvs, f1, f2, f3, f4⟩ := own_dic S1 hj
                rw [e1] at f1; cases f1
                cases hk : keyD dy with
                | none => rw [hk] at p1; exact p1.elim
                | some k =>
                  rw [hk] at p1
                  dsimp only at p1
                  subst f3
                  cases hg : dicAt (kvs.map (·.1)) xs k with
                  | none => rw [hg] at p1; exact p1.elim
                  | some d =>
                    rw [hg] at p1
                    obtain ⟨v, g1, g2⟩ := dic_some f4 hg
                    have gg := DGet.k (k := k) f2
                    rw [g1] at gg
                    exact ⟨a, v, rfl, by rw [key_ofD r1 hk]; exact gg, Post.now p1 S1 g2⟩
              | _ => exact p1.elim
/-- k in d, k not in d, d slot i's own dict: k first -/
def dDIn (neg : Bool) (i : Nat) (dk : DEn) : DEn := fun ρ => (dk ρ).bind fun y ρ1 => match ρ1[i]?, keyD y with
  | some (some (.own (.dic ks xs))), some k => .ok (.val (.bl (neg ^^ (dicAt ks xs k).isSome))) ρ1
  | _, _ => .bad
theorem rd_din {K : PySem.W.Frag} {i : Nat} {dk : DEn} {neg : Bool} {σ : L2.St} {H : Hp} {Q : VK} (h : rd K W (dDIn neg i dk) σ H Q) : rd K W dk σ H fun y H1 => tVar i σ H1 fun x H2 => ∃ a o, x = .ref a ∧ DGet H2 a y o ∧ Q (.bl (neg ^^ o.isSome)) H2 := by
  obtain ⟨Fo, A, ρ, S, p⟩ := h
  refine ⟨Fo, A, ρ, S, post_bind p fun y dy A1 H1 ρ1 x1 S1 r1 p1 => ?_⟩
  cases hj : ρ1[i]? with
  | none => rw [hj] at p1; exact p1.elim
  | some o' =>
    rw [hj] at p1
    cases o' with
    | none => exact p1.elim
    | some r' =>
      cases r' with
      | val d => exact p1.elim
      | own m' =>
        cases m' with
        | dic ks xs =>
          obtain ⟨a, kvs, f1, f2, f3, f4⟩ := own_dic S1 hj
          cases hk : keyD dy with
          | none => rw [hk] at p1; exact p1.elim
          | some k =>
            rw [hk] at p1
            dsimp only at p1
            subst f3
            rw [← dic_is f4] at p1
            exact ⟨.ref a, f1, a, valV kvs k, rfl, by rw [key_ofD r1 hk]; exact DGet.k f2, Post.now p1 S1 (.bl _)⟩
        | _ => exact p1.elim
theorem de_din {x : Str} {i : Nat} {b : Expr} {db : DEn} {pos px : Pos} (hu : X.A.units + 1 < cLine) (hb : DE X W b db) (ha : PE X (.Name x px) (tVar i)) (hm : behindInMarks .In (.Name x px) = false := by rfl) : DE X W (.Compare b [.In] [.Name x px] pos) (dDIn false i db) :=
  PE.weak (pe_cmp (pc_din hu hb ha) hm) fun σ H Q h => by
    have q := rd_din h
    simp only [Bool.false_xor] at q
    exact q
theorem de_dnotin {x : Str} {i : Nat} {b : Expr} {db : DEn} {pos px : Pos} (hu : X.A.units + 1 < cLine) (hb : DE X W b db) (ha : PE X (.Name x px) (tVar i)) (hm : behindInMarks .NotIn (.Name x px) = false := by rfl) : DE X W (.Compare b [.NotIn] [.Name x px] pos) (dDIn true i db) :=
  PE.weak (pe_cmp (pc_dnotin hu hb ha) hm) fun σ H Q h => by
    have q := rd_din h
    simp only [Bool.true_xor] at q
    exact q
theorem dt_din {x : Str} {i : Nat} {b : Expr} {db : DEn} {pos px : Pos} (hu : X.A.units + 1 < cLine) (hb : DE X W b db) (ha : PE X (.Name x px) (tVar i)) (hm : behindInMarks .In (.Name x px) = false := by rfl) : DT X W (.Compare b [.In] [.Name x px] pos) (dDIn false i db) :=
  PT.weak (pt_cmp (pc_din hu hb ha) hm) fun σ H Q h => by
    have q := rd_din h
    simp only [Bool.false_xor] at q
    exact q
theorem dt_dnotin {x : Str} {i : Nat} {b : Expr} {db : DEn} {pos px : Pos} (hu : X.A.units + 1 < cLine) (hb : DE X W b db) (ha : PE X (.Name x px) (tVar i)) (hm : behindInMarks .NotIn (.Name x px) = false := by rfl) : DT X W (.Compare b [.NotIn] [.Name x px] pos) (dDIn true i db) :=
  PT.weak (pt_cmp (pc_dnotin hu hb ha) hm) fun σ H Q h => by
    have q := rd_din h
    simp only [Bool.true_xor] at q
    exact q
/-- d[k] = e, d slot i's own dict: e first, then k -/
def sDicPut (i : Nat) (dk : DEn) (d : DEn) : DSt := fun ρ => (d ρ).asVal.thenS fun r ρ1 => match ρ1[i]? with
  | some (some (.own (.dic _ _))) => (dk ρ1).asVal.thenS fun j ρ2 => (match ρ2[i]?, keyD j.toD with
    | some (some (.own (.dic ks xs))), some k => if ks.length < sizeLine then .nx (ρ2.set i (some (.own (.dic (keysPut ks k) (valsPut ks xs k r.toD))))) else .bad
    | _, _ => .bad)
  | _ => .bad
theorem ds_dicPut {x : Str} {i : Nat} {j e : Expr} {dj d : DEn} {px pos' pos : Pos} (hu : X.A.units + 1 < cLine) (ho : PE X (.Name x px) (tVar i)) (hj : DE X W j dj) (he : DE X W e d)
    (hs : swapsWith e (some (.Subscript (.Name x px) j pos')) pos.line X.env = pure false := by rfl) : DS X W P (.Assign [.Subscript (.Name x px) j pos'] e pos) (sDicPut i dj d) :=
  PS.weak (ps_dput hu ho hj he hs) fun D σ H ⟨Fo, A, ρ, S, p⟩ => ⟨Fo, A, ρ, S, Post.asVal (post_then p fun v r A1 H1 ρ1 e1 S1 rv q => by
    have key : ∀ {A2 : Hp} {d2 : DL.D}, Ex A1 A2 → Sat X.K Fo A2 H1 σ ρ1 → Rep X.K A2 v d2 → r.toD = d2 → tVar i σ H1 fun x H2 => rd X.K W dj σ H2 fun y H3 => ∃ a H4, x = .ref a ∧ DPut H3 a y v H4 ∧ D.nx σ H4 := fun {A2 d2} e2 S2 r2 hd => by
      rw [hd] at q
      cases hi : ρ1[i]? with
      | none => rw [hi] at q; exact q.elim
      | some o =>
        rw [hi] at q
        cases o with
        | none => exact q.elim
        | some rr =>
          cases rr with
          | val _ => exact q.elim
          | own m =>
            cases m with
            | dic ks0 xs0 =>
              obtain ⟨a, kvs0, g1, g2, g3, g4⟩ := own_dic S2 hi
              refine ⟨.ref a, g1, Fo, A2, ρ1, S2, Post.asVal (post_then (PostS.from q (Keep.refl _ _) e2) fun vj rj A3 H3 ρ3 e3 S3 rvj q3 => ?_)⟩
              cases hk : ρ3[i]? with
              | none => rw [hk] at q3; exact q3.elim
              | some o3 =>
                rw [hk] at q3
                cases o3 with
                | none => exact q3.elim
                | some r3 =>
                  cases r3 with
                  | val _ => exact q3.elim
                  | own m3 =>
                    cases m3 with
                    | dic ks xs =>
                      obtain ⟨b, kvs, f1, f2, f3, f4⟩ := own_dic S3 hk
                      rw [g1] at f1; cases f1
                      cases rvj with
                      | own =>
                        rename_i m4 _ _ _ _ _
                        cases m4 <;> exact q3.elim
                      | val rvj =>
                        rename_i dj2
                        cases hq : keyD dj2 with
                        | none => rw [show keyD (R.toD (.val dj2)) = none from hq] at q3; exact q3.elim
                        | some k =>
                          rw [show keyD (R.toD (.val dj2)) = some k from hq] at q3
                          dsimp only at q3
                          by_cases hl : ks.length < sizeLine
                          · rw [if_pos hl] at q3
                            subst f3
                            refine ⟨a, _, rfl, by rw [key_ofD rvj hq]; exact DPut.k f2 (by rw [List.length_map] at hl; exact hl), q3 σ A3 _ (Keep.refl _ _) (Evl.Ex.refl _) (S3.write hk g1 (.dic (put_keys kvs k v) (put_vals f4 (r2.mn e3))))⟩
                          · rw [if_neg hl] at q3; exact q3.elim
                    | _ => exact q3.elim
            | _ => exact q.elim
    cases rv with
    | own h1 h2 h3 h4 h5 => exact key (Ex.new h1) (S1.anchor h1 h2 h3 h5) (h4.freeze h1) rfl
    | val rv => exact key (Evl.Ex.refl _) S1 rv rfl)⟩
end
end DL

set_option maxRecDepth 100000
set_option maxHeartbeats 2000000
/-! DL35: an own dict that is locked for good when it is first read by name (as data that may be walked). -/
namespace DL
open PySem PySem.Spec L2
open Evl (Ex)
section
variable {X : Cx} {W : WX} {K : PySem.W.Frag} {Fo A H : Hp} {σ : L2.St} {ρ : Slots}
def tVarL (i : Nat) : TE := fun σ H Q => (∃ v, σ[i]? = some (some v) ∧ Q v H) ∨ ∃ a u, σ[i]? = some (some (V.ref a)) ∧ H a = some u ∧ Mut (some u) ∧ ∀ od, Q (.ref a) (upd H a (.frz od u))
theorem pe_varL {e : Expr} {i : Nat} (h : PE X e (tVar i)) : PE X e (tVarL i) := by
  refine ⟨fun pins s σ H Q I hq => ?_⟩
  rcases hq with hq | ⟨a, u, e1, e2, mu, k⟩
  · exact h.run pins s σ H Q I hq
  · refine thn (h.run pins s σ H (fun v H1 => v = .ref a ∧ H1 = H) I ⟨_, e1, rfl, rfl⟩) fun w s1 ⟨v, H1, I1, r, h1, h2⟩ => ?_
    subst h1 h2
    obtain ⟨od, I2⟩ := I1.lock e2 mu
    exact ⟨_, _, I2, r, k od⟩
theorem Sat.lockSlot {i : Nat} {ks : List Key} {xs : List D} {a : Addr} {od : Obj} {kvs : List (Key × V)} (S : Sat K Fo A H σ ρ) (h : ρ[i]? = some (some (.own (.dic ks xs)))) (e1 : σ[i]? = some (some (V.ref a))) (e4 : H a = some (.dK kvs)) (n : kvs.map (·.1) = ks) (r : RepL K A (kvs.map (·.2)) xs) :
    A a = none ∧ Sat K Fo (upd A a (.frz od (.dK kvs))) (upd H a (.frz od (.dK kvs))) σ (ρ.set i (some (.val (.dif ks xs)))) ∧ Rep K (upd A a (.frz od (.dK kvs))) (.ref a) (.dif ks xs) := by
  obtain ⟨a', o, f1, e2, e3, _, _⟩ := S.own i _ h
  rw [e1] at f1; cases f1
  have rep : Rep K (upd A a (.frz od (.dK kvs))) (.ref a) (.dif ks xs) := .dif upd_same n (r.mn (Ex.new e2))
  refine ⟨e2, ⟨fun b u q => ?_, fun b u q => ?_, by rw [List.length_set]; exact S.len, fun j d q => ?_, fun j m' q => ?_, fun j k m1 m2 b q1 q2 q3 q4 => ?_⟩, rep⟩
  · by_cases nb : b = a
    · subst nb; rw [upd_same] at q ⊢; exact q
    · rw [upd_ne nb] at q ⊢; exact S.ex b u q
  · have nb : b ≠ a := fun z => by subst z; rw [e3] at q; cases q
    rw [upd_ne nb, upd_ne nb]; exact S.fo b u q
  · rw [List.getElem?_set] at q
    split at q
    · rename_i hij; subst hij
      split at q
      · cases q; exact ⟨_, e1, rep⟩
      · cases q
    · obtain ⟨v, g1, g2⟩ := S.val j d q
      exact ⟨v, g1, g2.mn (Ex.new e2)⟩
  · rw [List.getElem?_set] at q
    split at q
    · split at q <;> cases q
    · rename_i hij
      obtain ⟨b, u, g1, g2, g3, g4, g5⟩ := S.own j m' q
      have nb : b ≠ a := fun z => by subst z; exact hij (S.inj i j _ m' b h q e1 g1)
      exact ⟨b, u, g1, by rw [upd_ne nb]; exact g2, g3, by rw [upd_ne nb]; exact g4, g5.mn (Ex.new e2)⟩
  · rw [List.getElem?_set] at q1 q2
    split at q1
    · split at q1 <;> cases q1
    · split at q2
      · split at q2 <;> cases q2
      · exact S.inj j k m1 m2 b q1 q2 q3 q4
/-- the dict in slot i, locked from now on -/
def dVarL (i : Nat) : DEn := fun ρ => match ρ[i]? with
  | some (some (.own (.dic ks xs))) => .ok (.val (.dif ks xs)) (ρ.set i (some (.val (.dif ks xs))))
  | some (some (.val (.dif ks xs))) => .ok (.val (.dif ks xs)) ρ
  | _ => .bad
theorem de_varL {i : Nat} {e : Expr} (h : PE X e (tVar i)) : DE X W e (dVarL i) := PE.weak (pe_varL h) fun σ H Q ⟨Fo, A, ρ, S, p⟩ => by
  unfold dVarL at p
  cases hi : ρ[i]? with
  | none => rw [hi] at p; exact p.elim
  | some o =>
    rw [hi] at p
    cases o with
    | none => exact p.elim
    | some r =>
      cases r with
      | val d =>
        cases d <;> first
          | exact p.elim
          | (obtain ⟨v, e1, e2⟩ := S.val i _ hi
             exact .inl ⟨v, e1, Post.now p S e2⟩)
      | own m =>
        cases m with
        | dic ks xs =>
          obtain ⟨a, kvs, f1, f2, f3, f4⟩ := own_dic S hi
          refine .inr ⟨a, _, f1, f2, trivial, fun od => ?_⟩
          obtain ⟨g0, g1, g2⟩ := S.lockSlot (od := od) hi f1 f2 f3 f4
          exact p _ _ _ (Ex.new g0) g1 (.val g2)
        | _ => exact p.elim
end
end DL

set_option maxRecDepth 100000
set_option maxHeartbeats 2000000
/-! DL36: locked dicts as data: read, asked, walked. -/
namespace DL
open PySem PySem.Spec L2
open Evl (Ex)
def dKey : Key → D
  | .inl i => .int i
  | .inr s => .str s
section
variable {X : Cx} {W : WX} {a b e tg : Expr} {da db d : DEn} {pos : Pos}
def gDAt (x y : D) : VRes := match x, keyD y with
  | .dif ks xs, some k => (match dicAt ks xs k with
    | some d => .ok (.val d)
    | none => .bad)
  | _, _ => .bad
theorem de_dget (hu : X.A.units + 1 < cLine) (ha : DE X W a da) (hb : DE X W b db) (hs : NoSl b := by intro _ _; rfl) : DE X W (.Subscript a b pos) (dBin gDAt da db) :=
  PE.weak (pe_dget hu ha hb hs) fun σ H Q ⟨Fo, A, ρ, S, p⟩ => ⟨Fo, A, ρ, S, post_bind p fun x dx A1 H1 ρ1 e1 S1 r1 p1 => ⟨Fo, A1, ρ1, S1, post_bind p1 fun y dy A2 H2 ρ2 e2 S2 r2 p2 => by
    have r1' := r1.mn e2
    cases r1' with
    | @dif a o kvs ks xs h n r =>
      unfold gDAt at p2
      cases hk : keyD dy with
      | none => rw [hk] at p2; exact p2.elim
      | some k =>
        rw [hk] at p2
        dsimp only at p2
        subst n
        cases hg : dicAt (kvs.map (·.1)) xs k with
        | none => rw [hg] at p2; exact p2.elim
        | some d =>
          rw [hg] at p2
          obtain ⟨v, g1, g2⟩ := dic_some r hg
          exact ⟨a, v, rfl, .inl ⟨kvs, k, .inr ⟨o, S2.ex _ _ h⟩, key_ofD r2 hk, g1.symm⟩, Post.now p2 S2 g2⟩
    | _ => exact p2.elim⟩⟩
/-- k in d, k not in d -/
def gDIn (neg : Bool) (y x : D) : VRes := match x, keyD y with
  | .dif ks xs, some k => .ok (.val (.bl (neg ^^ (dicAt ks xs k).isSome)))
  | _, _ => .bad
theorem rd_dinV {K : PySem.W.Frag} {neg : Bool} {σ : L2.St} {H : Hp} {Q : VK} (h : rd K W (dBin (gDIn neg) db da) σ H Q) : rd K W db σ H fun y H1 => rd K W da σ H1 fun x H2 => ∃ a o, x = .ref a ∧ DGet H2 a y o ∧ Q (.bl (neg ^^ o.isSome)) H2 := by
  obtain ⟨Fo, A, ρ, S, p⟩ := h
  refine ⟨Fo, A, ρ, S, post_bind p fun y dy A1 H1 ρ1 e1 S1 r1 p1 => ⟨Fo, A1, ρ1, S1, post_bind p1 fun x dx A2 H2 ρ2 e2 S2 r2 p2 => ?_⟩⟩
  cases r2 with
  | @dif a o kvs ks xs h n r =>
    unfold gDIn at p2
    cases hk : keyD dy with
    | none => rw [hk] at p2; exact p2.elim
    | some k =>
      rw [hk] at p2
      dsimp only at p2
      subst n
      rw [← dic_is r] at p2
      exact ⟨a, valV kvs k, rfl, .inl ⟨kvs, k, .inr ⟨o, S2.ex _ _ h⟩, key_ofD (r1.mn e2) hk, rfl⟩, Post.now p2 S2 (.bl _)⟩
  | _ => exact p2.elim
theorem de_dinV (hu : X.A.units + 1 < cLine) (hb : DE X W b db) (ha : DE X W a da) (hm : behindInMarks .In a = false := by rfl) : DE X W (.Compare b [.In] [a] pos) (dBin (gDIn false) db da) :=
  PE.weak (pe_cmp (pc_din hu hb ha) hm) fun σ H Q h => by
    have q := rd_dinV h
    simp only [Bool.false_xor] at q
    exact q
theorem de_dnotinV (hu : X.A.units + 1 < cLine) (hb : DE X W b db) (ha : DE X W a da) (hm : behindInMarks .NotIn a = false := by rfl) : DE X W (.Compare b [.NotIn] [a] pos) (dBin (gDIn true) db da) :=
  PE.weak (pe_cmp (pc_dnotin hu hb ha) hm) fun σ H Q h => by
    have q := rd_dinV h
    simp only [Bool.true_xor] at q
    exact q
theorem dt_dinV (hu : X.A.units + 1 < cLine) (hb : DE X W b db) (ha : DE X W a da) (hm : behindInMarks .In a = false := by rfl) : DT X W (.Compare b [.In] [a] pos) (dBin (gDIn false) db da) :=
  PT.weak (pt_cmp (pc_din hu hb ha) hm) fun σ H Q h => by
    have q := rd_dinV h
    simp only [Bool.false_xor] at q
    exact q
theorem dt_dnotinV (hu : X.A.units + 1 < cLine) (hb : DE X W b db) (ha : DE X W a da) (hm : behindInMarks .NotIn a = false := by rfl) : DT X W (.Compare b [.NotIn] [a] pos) (dBin (gDIn true) db da) :=
  PT.weak (pt_cmp (pc_dnotin hu hb ha) hm) fun σ H Q h => by
    have q := rd_dinV h
    simp only [Bool.true_xor] at q
    exact q
/-! walks -/
def gDicK : D → Option (List D)
  | .dif ks _ => some (ks.map dKey)
  | _ => none
def gDicV : D → Option (List D)
  | .dif _ xs => some xs
  | _ => none
theorem rep_key {K : PySem.W.Frag} {A : Hp} (k : Key) : Rep K A (kV k) (dKey k) := by
  cases k with
  | inl i => exact .int i
  | inr s => exact .str s
theorem itd_k {K : PySem.W.Frag} {A : Hp} {a : Addr} {o : Obj} {kvs : List (Key × V)} (h : A a = some (.frz o (.dK kvs))) : ItD K (Itk a o kvs) A ((kvs.map (·.1)).map dKey) where
  go := fun i H e hi => ⟨e _ _ h, by rw [List.length_map, List.length_map] at hi; exact hi⟩
  stop := fun i H e hi => ⟨e _ _ h, by rw [List.length_map, List.length_map] at hi; exact hi⟩
  yld := fun i H x H' Fo A' σ ρ d e S hd hy => by
    obtain ⟨rfl, k, v, e1, rfl⟩ := hy
    rw [List.getElem?_map, List.getElem?_map, e1] at hd
    cases hd
    exact ⟨A', Evl.Ex.refl _, S, rep_key k⟩
theorem itd_v {K : PySem.W.Frag} {A : Hp} {a : Addr} {o : Obj} {kvs : List (Key × V)} {xs : List D} (h : A a = some (.frz o (.dK kvs))) (r : RepL K A (kvs.map (·.2)) xs) : ItD K (Itd a o kvs) A xs where
  go := fun i H e hi => ⟨e _ _ h, by have := r.length; rw [List.length_map] at this; omega⟩
  stop := fun i H e hi => ⟨e _ _ h, by have := r.length; rw [List.length_map] at this; omega⟩
  yld := fun i H x H' Fo A' σ ρ d e S hd hy => by
    obtain ⟨rfl, k, e1⟩ := hy
    obtain ⟨v, g1, g2⟩ := r.get hd
    rw [List.getElem?_map, e1] at g1
    cases g1
    exact ⟨A', Evl.Ex.refl _, S, g2.mn e⟩
theorem di_dkeys (he : DE X W e d) : DI X W tg e (srcOf gDicK d) := PI.weak (pi_keys he) fun σ H R' h => rdI_of h fun v dd ds Fo A H ρ S r hg k => by
  cases r with
  | @dif a o kvs ks xs h n r =>
    cases hg
    subst n
    exact ⟨a, o, rfl, .inl ⟨kvs, S.ex _ _ h, k _ A H (Evl.Ex.refl _) S (itd_k h)⟩⟩
  | _ => cases hg
theorem di_dvals {apos cpos : Pos} (he : DE X W e d) (hbase : attributeBase e "values" X.env (eval e X.env) = eval e X.env := by rfl) (hline : (apos.endLine == cpos.line) = true := by rfl) : DI X W tg (.Call (.Attribute e "values" apos) [] [] cpos) (srcOf gDicV d) := PI.weak (pi_values he hbase hline) fun σ H R' h => rdI_of h fun v dd ds Fo A H ρ S r hg k => by
  cases r with
  | @dif a o kvs ks xs h n r =>
    cases hg
    subst n
    exact ⟨a, o, kvs, rfl, S.ex _ _ h, k _ A H (Evl.Ex.refl _) S (itd_v h r)⟩
  | _ => cases hg
end
end DL

set_option maxRecDepth 100000
set_option maxHeartbeats 2000000
/-! DL37: index, count, append to a new list, list(own list), looks that give a new list, return of an own thing, repr. -/
namespace DL
open PySem PySem.Spec L2
open Evl (Ex)
theorem hu1 {a b : Nat} (h : a + 65 < b) : a + 1 < b := by omega
section
variable {X : Cx} {W : WX} {P : List Nat}
/-! ### xs.index(k), xs.count(k): whole numbers -/
def ixOf (ns : List Int) (k : Int) : Option Nat := ns.findIdx? (· == k)
def gIndexL (xs : List D) : D → VRes
  | .int k => match intsOf xs with
    | some ns => (match ixOf ns k with
      | some j => .ok (.val (.int (j : Nat)))
      | none => .bad)
    | none => .bad
  | _ => .bad
def gCountL (xs : List D) : D → VRes
  | .int k => match intsOf xs with
    | some ns => .ok (.val (.int (ns.count k : Nat)))
    | none => .bad
  | _ => .bad
def dMetL (g : List D → D → VRes) (d1 d2 : DEn) : DEn := fun ρ => (d1 ρ).bind fun x ρ1 => match x with
  | .lst xs => (d2 ρ1).bind fun y ρ2 => (g xs y).at ρ2
  | _ => .bad
theorem flat_ints : ∀ ns : List Int, (ns.map V.int).all flatV = true
  | [] => rfl
  | n :: ns => by
    rw [List.map_cons, List.all_cons, flat_ints ns]
    rfl
theorem de_index {o e : Expr} {d1 d2 : DEn} {apos cpos : Pos} (ho : DE X W o d1) (he : DE X W e d2)
    (hbase : attributeBase o "index" X.env (eval o X.env) = eval o X.env := by rfl)
    (hfew : ((backTo cpos (starEach [e] X.env)).all (fun x => !x.1) && (backToKw cpos (keywordEach [] X.env)).all (fun x => x.1.isSome)
      && decide ([e].length + ([] : List Keyword).length + (if ([] : List Keyword).isEmpty then 0 else 1) < 30)) = true := by rfl)
    (hline : (apos.endLine == cpos.line) = true := by rfl) (hs : starEach [e] X.env = (false, eval e X.env) :: starEach [] X.env := by rfl) (hplain : (backTo cpos (starEach [] X.env)).any (·.1) = false := by rfl) :
    DE X W (.Call (.Attribute o "index" apos) [e] [] cpos) (dMetL gIndexL d1 d2) :=
  PE.weak (pe_bm PySem.F.plainAttrs_list PySem.F.slot_list_index PySem.F.type_list_index mt_index ho (pa_cons he pa_nil hs) hbase hfew hline hs hplain) fun σ H Q ⟨Fo, A, ρ, S, p⟩ => ⟨Fo, A, ρ, S, post_bind p fun x dx A1 H1 ρ1 e1 S1 r1 p1 => by
    cases r1 <;> first
      | exact p1.elim
      | (rename_i a xs ds h l
         refine ⟨.inl ⟨rfl, _, .inl (.inl (S1.ex _ _ h))⟩, Fo, A1, ρ1, S1, post_bind p1 fun y dy A2 H2 ρ2 e2 S2 r2 p2 => ?_⟩
         cases r2 <;> first
           | exact p2.elim
           | (rename_i k
              unfold gIndexL at p2
              dsimp only at p2
              cases hi : intsOf ds with
              | none => rw [hi] at p2; exact p2.elim
              | some ns =>
                rw [hi] at p2
                dsimp only at p2
                cases hj : ixOf ns k with
                | none => rw [hj] at p2; exact p2.elim
                | some j =>
                  rw [hj] at p2
                  have hx := l.intsV hi
                  subst hx
                  obtain ⟨hlt, hk, hno⟩ := List.findIdx?_eq_some_iff_getElem.mp hj
                  refine ⟨a, _, .int k, j, .int ns[j], rfl, rfl, .inl (.inl (S2.ex _ _ (e2 _ _ h))), rfl, flat_ints ns, ?_, ?_, fun m z' hm hz => ?_, Post.now p2 S2 (.int _)⟩
                  · rw [List.getElem?_map, List.getElem?_eq_getElem hlt]; rfl
                  · show (ns[j] == k) = true
                    exact hk
                  · rw [List.getElem?_map, List.getElem?_eq_getElem (by omega)] at hz
                    cases hz
                    show (ns[m] == k) = false
                    exact Bool.eq_false_iff.mpr fun q => hno m hm q))⟩
theorem de_countL {o e : Expr} {d1 d2 : DEn} {apos cpos : Pos} (ho : DE X W o d1) (he : DE X W e d2)
    (hbase : attributeBase o "count" X.env (eval o X.env) = eval o X.env := by rfl)
    (hfew : ((backTo cpos (starEach [e] X.env)).all (fun x => !x.1) && (backToKw cpos (keywordEach [] X.env)).all (fun x => x.1.isSome)
      && decide ([e].length + ([] : List Keyword).length + (if ([] : List Keyword).isEmpty then 0 else 1) < 30)) = true := by rfl)
    (hline : (apos.endLine == cpos.line) = true := by rfl) (hs : starEach [e] X.env = (false, eval e X.env) :: starEach [] X.env := by rfl) (hplain : (backTo cpos (starEach [] X.env)).any (·.1) = false := by rfl) :
    DE X W (.Call (.Attribute o "count" apos) [e] [] cpos) (dMetL gCountL d1 d2) :=
  PE.weak (pe_bm PySem.F.plainAttrs_list PySem.F.slot_list_count PySem.F.type_list_count mt_lcount ho (pa_cons he pa_nil hs) hbase hfew hline hs hplain) fun σ H Q ⟨Fo, A, ρ, S, p⟩ => ⟨Fo, A, ρ, S, post_bind p fun x dx A1 H1 ρ1 e1 S1 r1 p1 => by
    cases r1 <;> first
      | exact p1.elim
      | (rename_i a xs ds h l
         refine ⟨.inl ⟨rfl, _, .inl (.inl (S1.ex _ _ h))⟩, Fo, A1, ρ1, S1, post_bind p1 fun y dy A2 H2 ρ2 e2 S2 r2 p2 => ?_⟩
         cases r2 <;> first
           | exact p2.elim
           | (rename_i k
              unfold gCountL at p2
              dsimp only at p2
              cases hi : intsOf ds with
              | none => rw [hi] at p2; exact p2.elim
              | some ns =>
                rw [hi] at p2
                have hx := l.intsV hi
                subst hx
                exact ⟨a, ns, k, rfl, rfl, .inl (.inl (S2.ex _ _ (e2 _ _ h))), Post.now p2 S2 (.int _)⟩))⟩
/-- s.count(t) -/
def gCountS : D → D → VRes
  | .str a, .str b => .ok (.val (.int (Txt.count a b)))
  | _, _ => .bad
def dMetS (g : Str → D → VRes) (d1 d2 : DEn) : DEn := fun ρ => (d1 ρ).bind fun x ρ1 => match x with
  | .str a => (d2 ρ1).bind fun y ρ2 => (g a y).at ρ2
  | _ => .bad
theorem de_countS {o e : Expr} {d1 d2 : DEn} {apos pos : Pos} (ho : DE X W o d1) (he : DE X W e d2) (hs : starEach [e] X.env = [(false, eval e X.env)] := by rfl) (hbase : attributeBase o "count" X.env (eval o X.env) = eval o X.env := by rfl) (hline : (apos.endLine == pos.line) = true := by rfl) :
    DE X W (.Call (.Attribute o "count" apos) [e] [] pos) (dMetS (fun a => gCountS (.str a)) d1 d2) := PE.weak (pe_m1 PySem.F.slot_str_count PySem.F.type_str_count mt_count ho he hs hbase hline) fun σ H Q ⟨Fo, A, ρ, S, p⟩ => ⟨Fo, A, ρ, S, post_bind p fun x dx A1 H1 ρ1 e1 S1 r1 p1 => by
  cases r1 with
  | str a =>
    refine ⟨⟨a, rfl⟩, Fo, A1, ρ1, S1, post_bind p1 fun y dy A2 H2 ρ2 e2 S2 r2 p2 => ?_⟩
    cases r2 with
    | str b => exact ⟨a, b, rfl, rfl, Post.now p2 S2 (.int _)⟩
    | _ => exact p2.elim
  | _ => exact p1.elim⟩
/-! ### append to a list that nobody else holds -/
def dAppT (d1 d2 : DEn) : DEn := fun ρ => match d1 ρ with
  | .ok (.own (.lst xs)) ρ1 => if xs.length < sizeLine then (match d2 ρ1 with
    | .ok _ ρ2 => .ok (.val .non) ρ2
    | .exc x ρ2 => .exc x ρ2
    | .bad => .bad) else .bad
  | .exc x ρ1 => .exc x ρ1
  | _ => .bad
theorem de_appT {o e : Expr} {d1 d2 : DEn} {apos cpos : Pos} (ho : DE X W o d1) (he : DE X W e d2)
    (hbase : attributeBase o "append" X.env (eval o X.env) = eval o X.env := by rfl)
    (hfew : ((backTo cpos (starEach [e] X.env)).all (fun x => !x.1) && (backToKw cpos (keywordEach [] X.env)).all (fun x => x.1.isSome)
      && decide ([e].length + ([] : List Keyword).length + (if ([] : List Keyword).isEmpty then 0 else 1) < 30)) = true := by rfl)
    (hline : (apos.endLine == cpos.line) = true := by rfl) (hs : starEach [e] X.env = (false, eval e X.env) :: starEach [] X.env := by rfl) (hplain : (backTo cpos (starEach [] X.env)).any (·.1) = false := by rfl) :
    DE X W (.Call (.Attribute o "append" apos) [e] [] cpos) (dAppT d1 d2) :=
  PE.weak (pe_bm PySem.F.plainAttrs_list PySem.F.slot_list_append PySem.F.type_list_append mt_append ho (pa_cons he pa_nil hs) hbase hfew hline hs hplain) fun σ H Q ⟨Fo, A, ρ, S, p⟩ => by
    refine ⟨Fo, A, ρ, S, ?_⟩
    unfold dAppT at p
    cases hd : d1 ρ with
    | bad => rw [hd] at p; exact p
    | exc x ρ1 => rw [hd] at p; exact p
    | ok r ρ1 =>
      rw [hd] at p
      cases r with
      | val d => exact p.elim
      | own m =>
        cases m with
        | lst xs =>
          dsimp only at p
          obtain ⟨hl, p⟩ := ifB (P := fun z : ERes => Post X.K W Fo A σ z Q) p (fun z => z)
          intro v A1 H1 e1 S1 r1
          cases r1 with
          | own h1 h2 h3 h4 h5 =>
            rename_i a ob
            cases h4 with
            | lst l =>
              rename_i vs
              refine ⟨.inl ⟨rfl, _, .inl (.inl h3)⟩, upd Fo a (.lst vs), A1, ρ1, S1.lock h1 h3 h5, ?_⟩
              cases hd2 : d2 ρ1 with
              | bad => rw [hd2] at p; exact p.elim
              | exc x ρ2 =>
                rw [hd2] at p
                exact fun cls dct A' H' e' S' rx => p cls dct A' H' (e1.trans e') (S'.unlock h2).1 rx
              | ok r2 ρ2 =>
                rw [hd2] at p
                intro y A2 H2 e2 S2 r2'
                have hH : H2 a = some (.lst vs) := (S2.fo a _ upd_same).1
                refine ⟨a, vs, y, rfl, rfl, hH, by rw [l.length]; exact hl, ?_⟩
                exact p _ A2 _ (e1.trans e2) (((S2.relock (o' := .lst (vs ++ [y]))).unlock h2).1) (.val .non)
        | _ => exact p.elim
/-! ### list(x), x slot i -/
def dListO (i : Nat) : DEn := fun ρ => match ρ[i]? with
  | some (some (.own (.lst xs))) => .ok (.own (.lst xs)) ρ
  | some (some (.val (.lst xs))) => .ok (.own (.lst xs)) ρ
  | _ => .bad
theorem de_listO {x : Str} {i : Nat} {p px pos : Pos} (ho : PE X (.Name x px) (tVar i)) (hg : Gl X "list") (hm : X.mg "list" = none) (he : starEach [.Name x px] X.env = (false, eval (.Name x px) X.env) :: starEach [] X.env := by rfl) (hpl : (backTo pos (starEach [] X.env)).any (·.1) = false := by rfl) :
    DE X W (.Call (.Name "list" p) [.Name x px] [] pos) (dListO i) :=
  PE.weak (pe_callTy call_list_of hg hm (by decide +kernel) (pa_cons ho pa_nil he) (he := he) (hpl := hpl)) fun σ H Q ⟨Fo, A, ρ, S, p⟩ => by
    unfold dListO at p
    cases hi : ρ[i]? with
    | none => rw [hi] at p; exact p.elim
    | some o =>
      rw [hi] at p
      cases o with
      | none => exact p.elim
      | some r =>
        cases r with
        | val d =>
          obtain ⟨v, e1, e2⟩ := S.val i _ hi
          cases e2 <;> first
            | exact p.elim
            | (rename_i h l
               exact ⟨_, e1, _, _, rfl, .inl (.inl (.inl (S.ex _ _ h))), fun q hq => Post.newL p S hq l⟩)
        | own m =>
          cases m with
          | lst xs =>
            obtain ⟨a, vs, e1, e2, e3⟩ := own_lst S hi
            exact ⟨_, e1, _, _, rfl, .inl (.inl (.inl e2)), fun q hq => Post.newL p S hq e3⟩
          | _ => exact p.elim
/-! ### a look that gives a new list of flat things -/
def dPeekL (d : DEn) : DEn := fun ρ => match d (peekS ρ) with
  | .ok (.own (.lst xs)) _ => if xs.all flat then .ok (.own (.lst xs)) ρ else .bad
  | .exc x _ => if x.ns = [] then .exc x ρ else .bad
  | _ => .bad
theorem RepL.flat {K : PySem.W.Frag} {A A' : Hp} : ∀ {vs : List V} {ds : List D}, RepL K A vs ds → ds.all DL.flat = true → RepL K A' vs ds
  | _, _, .nil, _ => .nil
  | _, _, .cons h r, f => by
    rw [List.all_cons, Bool.and_eq_true] at f
    exact .cons (h.flat f.1) (r.flat f.2)
theorem rd_peekL {K : PySem.W.Frag} {W : WX} {d : DEn} {σ : L2.St} {H : Hp} {Q : VK} (h : rd K W (dPeekL d) σ H Q) : rd K W d σ H Q := by
  obtain ⟨Fo, A, ρ, S, p⟩ := h
  refine ⟨Fo, _, _, S.peek, ?_⟩
  unfold dPeekL at p
  cases hd : d (peekS ρ) with
  | bad => rw [hd] at p; exact p.elim
  | exc x ρ1 =>
    rw [hd] at p
    obtain ⟨hn, p2⟩ := ifB (P := fun z : ERes => Post K W Fo A σ z Q) p (fun z => z)
    exact fun cls dct A' H' e' S' rx => p2 cls dct A H' (Ex.refl A) (S.unpeek e' S') ⟨rx.1, fun _ => rx.2.1 hn, fun hne => absurd hn hne⟩
  | ok r ρ1 =>
    rw [hd] at p
    cases r with
    | val x => exact p.elim
    | own m =>
      cases m with
      | lst xs =>
        obtain ⟨hf, p2⟩ := ifB (P := fun z : ERes => Post K W Fo A σ z Q) p (fun z => z)
        intro v A' H' e' S' rv
        cases rv with
        | own h1 h2 h3 h4 h5 =>
          rename_i a ob
          have ha : ownA A H σ ρ a = none := by
            cases q : ownA A H σ ρ a with
            | none => rfl
            | some z => rw [e' _ _ q] at h1; cases h1
          refine p2 _ A H' (Ex.refl A) (S.unpeek e' S') (.own ?_ h2 h3 ?_ ?_)
          · cases q : A a with
            | none => rfl
            | some z => rw [ownA_ex S _ _ q] at ha; cases ha
          · cases h4 with
            | lst l => exact .lst (l.flat hf)
          · intro i m hi hs
            rw [ownA_at S hi hs] at ha
            obtain ⟨b, u, f1, _, _, f4, _⟩ := S.own i m hi
            rw [hs] at f1; cases f1
            rw [f4] at ha; cases ha
      | _ => exact p.elim
theorem de_peekL {e : Expr} {d : DEn} (h : DE X W e d) : DE X W e (dPeekL d) := PE.weak h fun σ H Q q => rd_peekL q
/-! ### return x, x slot i: its own thing goes out -/
def sRetO (i : Nat) : DSt := fun ρ => match ρ[i]? with
  | some (some (.own m)) => .rt (.own m) (ρ.set i none)
  | some (some (.val d)) => .rt (.val d) ρ
  | _ => .bad
theorem ds_retO {x : Str} {i : Nat} {px pos : Pos} (ho : PE X (.Name x px) (tVar i)) : DS X W P (.Return (some (.Name x px)) pos) (sRetO i) :=
  PS.weak (ps_ret ho) fun D σ H ⟨Fo, A, ρ, S, p⟩ => by
    unfold sRetO at p
    cases hi : ρ[i]? with
    | none => rw [hi] at p; exact p.elim
    | some o =>
      rw [hi] at p
      cases o with
      | none => exact p.elim
      | some r =>
        cases r with
        | val d =>
          obtain ⟨v, e1, e2⟩ := S.val i _ hi
          exact ⟨v, e1, p v σ A H (Keep.refl _ _) (Ex.refl _) S (.val e2)⟩
        | own m =>
          obtain ⟨a, u, e1, e2, e3, e4, e5⟩ := S.own i m hi
          have gt : ∀ (j : Nat) (r : R), (ρ.set i none)[j]? = some (some r) → i ≠ j ∧ ρ[j]? = some (some r) := fun j r q => by
            by_cases z : i = j
            · subst z
              rw [List.getElem?_set_self (List.getElem?_eq_some_iff.mp hi).1] at q; cases q
            · rw [List.getElem?_set_ne z] at q; exact ⟨z, q⟩
          refine ⟨.ref a, e1, p _ σ A H (Keep.refl _ _) (Ex.refl _) (S.forget (List.length_set ..) fun j r q => (gt j r q).2) (.own e2 e3 e4 e5 fun j m' q hs => ?_)⟩
          obtain ⟨g1, g2⟩ := gt j _ q
          exact g1 (S.inj i j m m' a hi g2 e1 hs)
/-! ### repr of a flat thing -/
def gRepr : List D → VRes
  | [.bl b] => .ok (.val (.str (if b then "True" else "False")))
  | [.non] => .ok (.val (.str "None"))
  | [.int i] => if i.natAbs.log2 < 1920 then .ok (.val (.str (toString i))) else .bad
  | _ => .bad
theorem call_repr_flat : CallR X (.builtin "repr") (fun xs H Q => (∃ b, xs = [.bl b] ∧ Q (.str (if b then "True" else "False")) H) ∨ (xs = [.non] ∧ Q (.str "None") H) ∨ ∃ i, xs = [.int i] ∧ i.natAbs.log2 < 1920 ∧ Q (.str (toString i)) H) := by
  intro pins s σ H xs us Q I r h
  rcases h with ⟨b, rfl, q⟩ | ⟨rfl, q⟩ | ⟨i, rfl, hz, q⟩
  · obtain ⟨u, rfl, rfl⟩ := vals1 r
    exact PySem.P.repr_of_bool ⟨.str _, H, I.tok _, ⟨_, rfl⟩, q⟩
  · obtain ⟨u, rfl, rfl⟩ := vals1 r
    exact PySem.P.repr_of_none ⟨.str _, H, I.tok _, ⟨_, rfl⟩, q⟩
  · obtain ⟨u, rfl, t, rfl⟩ := vals1 r
    exact PySem.P.repr_of_int hz ⟨.str _, H, I.tok _, ⟨_, rfl⟩, q⟩
theorem de_repr {e : Expr} {es : List Expr} {args : List Arg} {p pos : Pos} (hg : Gl X "repr") (hm : X.mg "repr" = none) (ha : DA X W (e :: es) args) (he : starEach (e :: es) X.env = (false, eval e X.env) :: starEach es X.env := by rfl) (hpl : (backTo pos (starEach es X.env)).any (·.1) = false := by rfl) : DE X W (.Call (.Name "repr" p) (e :: es) [] pos) (dAll gRepr args) :=
  de_callB call_repr_flat hg hm (by decide +kernel) ha (fun σ vs ds Fo A H ρ Q S ra p => by
    cases ra with
    | nil => exact p.elim
    | cons h r =>
      cases r with
      | cons _ _ => cases h <;> exact p.elim
      | nil =>
        cases h <;> first
          | exact p.elim
          | exact .inl ⟨_, rfl, Post.now p S (.str _)⟩
          | exact .inr (.inl ⟨rfl, Post.now p S (.str _)⟩)
          | (obtain ⟨hc, p2⟩ := ifB (P := fun z : VRes => Post X.K W Fo A σ (z.at ρ) Q) p (fun z => z)
             exact .inr (.inr ⟨_, rfl, hc, Post.now p2 S (.str _)⟩))) (he := he) (hpl := hpl)
end
end DL

set_option maxRecDepth 100000
set_option maxHeartbeats 2000000
/-! DL38: plain lists: turned parts, folds of flips, runs of joined and reversed items. -/
namespace DL
open PySem PySem.Spec L2
/-! ### turned parts -/
section
variable {α β : Type} {s e : Nat} {xs : List α}
theorem turn_perm (h1 : s ≤ e) (h2 : e ≤ xs.length) : List.Perm (turn s e xs) xs := by
  obtain ⟨P, M, S, rfl, h3, h4⟩ := parts h1 h2
  rw [turn_app h3 h4]
  exact ((List.reverse_perm M).append_left P).append_right S
end
/-! ### flips one after the other -/
def FOk (L : Nat) (fs : List (Nat × Nat)) : Prop := ∀ f ∈ fs, f.1 < f.2 ∧ f.2 ≤ L
def fold {α : Type} (fs : List (Nat × Nat)) (xs : List α) : List α := fs.foldl (fun xs f => turn f.1 f.2 xs) xs
def mv (L : Nat) (fs : List (Nat × Nat)) : List Nat := fold fs (List.range L)
section
variable {α β : Type} {L : Nat}
abbrev Fs := List (Nat × Nat)
theorem FOk.tail {f : Nat × Nat} {fs : Fs} (ok : FOk L (f :: fs)) : FOk L fs := fun g hg => ok g (List.mem_cons_of_mem _ hg)
theorem fold_len : ∀ {fs : Fs} {xs : List α}, FOk L fs → xs.length = L → (fold fs xs).length = L
  | [], xs, _, h => h
  | f :: fs, xs, ok, h => by
    have := ok f List.mem_cons_self
    exact fold_len (fs := fs) ok.tail ((turn_len (by omega) (by omega)).trans h)
theorem fold_perm : ∀ {fs : Fs} {xs : List α}, FOk L fs → xs.length = L → List.Perm (fold fs xs) xs
  | [], xs, _, h => List.Perm.refl _
  | f :: fs, xs, ok, h => by
    have := ok f List.mem_cons_self
    exact (fold_perm (fs := fs) ok.tail ((turn_len (by omega) (by omega)).trans h)).trans (turn_perm (by omega) (by omega))
theorem fold_map (g : α → β) : ∀ {fs : Fs} {xs : List α}, (fold fs xs).map g = fold fs (xs.map g)
  | [], xs => rfl
  | f :: fs, xs => by
    show (fold fs (turn f.1 f.2 xs)).map g = fold fs (turn f.1 f.2 (xs.map g))
    rw [fold_map, turn_map]
theorem fold_app (fs gs : Fs) (xs : List α) : fold (fs ++ gs) xs = fold gs (fold fs xs) := by unfold fold; rw [List.foldl_append]
theorem fold_rev : ∀ {fs : Fs} {xs : List α}, FOk L fs → xs.length = L → fold (fs ++ fs.reverse) xs = xs
  | [], xs, _, _ => rfl
  | f :: fs, xs, ok, h => by
    have h1 := ok f List.mem_cons_self
    have h2 : (turn f.1 f.2 xs).length = L := (turn_len (by omega) (by omega)).trans h
    have ih := fold_rev (fs := fs) ok.tail h2
    rw [List.reverse_cons]
    show fold (fs ++ (fs.reverse ++ [f])) (turn f.1 f.2 xs) = xs
    rw [← List.append_assoc, fold_app, ih]
    exact turn_turn (by omega) (by omega)
theorem mv_len {fs : Fs} (ok : FOk L fs) : (mv L fs).length = L := fold_len ok List.length_range
theorem mv_nil (L : Nat) : mv L [] = List.range L := rfl
theorem mv_app (L : Nat) (fs gs : Fs) : mv L (fs ++ gs) = fold gs (mv L fs) := fold_app fs gs _
theorem mv_perm {fs : Fs} (ok : FOk L fs) : List.Perm (mv L fs) (List.range L) := fold_perm ok List.length_range
theorem mv_nodup {fs : Fs} (ok : FOk L fs) : (mv L fs).Nodup := (mv_perm ok).nodup_iff.mpr List.nodup_range
theorem mv_lt {fs : Fs} (ok : FOk L fs) {p : Nat} (h : p ∈ mv L fs) : p < L := List.mem_range.mp ((mv_perm ok).mem_iff.mp h)
theorem FOk.rev {fs : Fs} (ok : FOk L fs) : FOk L fs.reverse := fun f h => ok f (by simpa using h)
theorem FOk.app {fs gs : Fs} (ok : FOk L fs) (ok2 : FOk L gs) : FOk L (fs ++ gs) := fun f h => by
  rcases List.mem_append.mp h with h | h
  · exact ok f h
  · exact ok2 f h
theorem FOk.mono {L M : Nat} {fs : Fs} (ok : FOk L fs) (h : L ≤ M) : FOk M fs := fun f hf => ⟨(ok f hf).1, Nat.le_trans (ok f hf).2 h⟩
theorem FOk.nil : FOk L [] := fun f h => by cases h
theorem FOk.rep {fs : Fs} (ok : FOk L fs) (n : Nat) : FOk L (List.replicate n fs).flatten := fun f h => by
  obtain ⟨l, h1, h2⟩ := List.mem_flatten.mp h
  rw [(List.mem_replicate.mp h1).2] at h2
  exact ok f h2
theorem mv_rev {fs : Fs} (ok : FOk L fs) : mv L (fs ++ fs.reverse) = List.range L := fold_rev ok List.length_range
end
/-! ### runs -/
theorem rle_rep {y : Nat} : ∀ {k : Nat} {Q : List Nat}, 0 < k → Q.getLast? ≠ some y → rle (Q ++ List.replicate k y) = rle Q ++ [k]
  | 1, Q, _, h => by
    show rle (Q ++ [y]) = _
    rw [rle_snoc, if_neg h]
  | k + 2, Q, _, h => by
    have ih := rle_rep (k := k + 1) (Q := Q) (by omega) h
    rw [List.replicate_succ', ← List.append_assoc, rle_snoc, if_pos (by simp [List.getLast?_append, List.replicate_succ']), ih, upLast_app]
theorem rle_cons (x : Nat) (xs : List Nat) : rle (x :: xs) = if xs.head? = some x then bump (rle xs) else 1 :: rle xs := by
  cases xs with
  | nil => simp [rle]
  | cons y xs =>
    rw [rle]
    simp only [List.head?_cons, Option.some.injEq]
    by_cases e : x = y
    · rw [if_pos e, if_pos e.symm]
    · rw [if_neg e, if_neg fun q => e q.symm]
theorem upLast_rev : ∀ l : List Nat, upLast l.reverse = (bump l).reverse
  | [] => rfl
  | a :: l => by
    rw [List.reverse_cons, upLast_app]
    simp [bump]
theorem rle_rev : ∀ xs : List Nat, rle xs.reverse = (rle xs).reverse
  | [] => rfl
  | x :: xs => by
    rw [List.reverse_cons, rle_snoc, rle_cons, rle_rev xs, List.getLast?_reverse]
    split
    · exact upLast_rev _
    · simp
theorem hd_rev {xs : List Nat} : hd xs.reverse = xs.getLast?.getD 0 := by
  unfold hd
  rw [List.headD_eq_head?_getD, List.head?_reverse]
theorem last_par : ∀ {x : Nat} {xs : List Nat}, Bits (x :: xs) → ((x :: xs).getLast?.getD 0 + (rle (x :: xs)).length + x) % 2 = 1
  | x, [], h => by simp [rle]; omega
  | x, y :: xs, h => by
    have ih := last_par (x := y) (xs := xs) h.tail
    have h1 := h x List.mem_cons_self
    have h2 := h y (List.mem_cons_of_mem _ List.mem_cons_self)
    have g : (x :: y :: xs).getLast? = (y :: xs).getLast? := by simp [List.getLast?_cons_cons]
    rw [g, rle_cons, List.head?_cons]
    by_cases e : y = x
    · subst e
      rw [if_pos rfl, bump_len]
      exact ih
    · rw [if_neg (fun q => e (Option.some.inj q)), List.length_cons]
      omega
theorem last_le {xs : List Nat} (h : Bits xs) : xs.getLast?.getD 0 ≤ 1 := by
  cases e : xs.getLast? with
  | none => simp
  | some z => exact h z (List.mem_of_getLast? e)
theorem last_eq {xs : List Nat} (h : Bits xs) (hne : xs ≠ []) : xs.getLast?.getD 0 = (hd xs + (rle xs).length - 1) % 2 := by
  cases xs with
  | nil => exact absurd rfl hne
  | cons x xs =>
    have := last_par h
    have := last_le h
    have h1 := h x List.mem_cons_self
    have h3 : 0 < (rle (x :: xs)).length := List.length_pos_iff.mpr rle_ne
    simp only [hd, List.headD_cons] at *
    omega
/-- the last run and the next first one are one -/
def mrg (l m : List Nat) : List Nat := l.dropLast ++ [l.getLast?.getD 0 + m.headD 0] ++ m.tail
theorem bump_mrg {l m : List Nat} (h : l ≠ []) : bump (mrg l m) = mrg (bump l) m := by
  cases l with
  | nil => exact absurd rfl h
  | cons a l =>
    cases l with
    | nil => simp [mrg, bump]; omega
    | cons b l => simp [mrg, bump]
theorem cons_mrg {a : Nat} {l m : List Nat} (h : l ≠ []) : a :: mrg l m = mrg (a :: l) m := by
  cases l with
  | nil => exact absurd rfl h
  | cons b l => simp [mrg]
theorem rle_app {y : Nat} {ys : List Nat} : ∀ {x : Nat} {xs : List Nat}, rle ((x :: xs) ++ (y :: ys)) = if (x :: xs).getLast? = some y then mrg (rle (x :: xs)) (rle (y :: ys)) else rle (x :: xs) ++ rle (y :: ys)
  | x, [] => by
    show rle (x :: y :: ys) = _
    rw [rle_cons, List.head?_cons, List.getLast?_singleton]
    by_cases e : y = x
    · subst e
      rw [if_pos rfl, if_pos rfl]
      cases h : rle (y :: ys) with
      | nil => exact absurd h rle_ne
      | cons a t => simp [rle, mrg, bump]; omega
    · rw [if_neg (fun q => e (Option.some.inj q)), if_neg (fun q => e (Option.some.inj q).symm)]
      rfl
  | x, z :: xs => by
    have ih := rle_app (y := y) (ys := ys) (x := z) (xs := xs)
    have g : (x :: z :: xs).getLast? = (z :: xs).getLast? := by simp [List.getLast?_cons_cons]
    rw [g]
    show rle (x :: ((z :: xs) ++ (y :: ys))) = _
    rw [rle_cons, ih, rle_cons x (z :: xs)]
    have hh : ((z :: xs) ++ (y :: ys)).head? = some z := rfl
    rw [hh, List.head?_cons]
    by_cases e : z = x
    · subst e
      rw [if_pos rfl, if_pos rfl]
      split
      · exact bump_mrg rle_ne
      · exact bump_app rle_ne _
    · have e' : ¬ some z = some x := fun q => e (Option.some.inj q)
      rw [if_neg e', if_neg e']
      split
      · exact cons_mrg rle_ne
      · rfl
theorem hd_app (xs ys : List Nat) : hd (xs ++ ys) = if xs = [] then hd ys else hd xs := by
  cases xs with
  | nil => rfl
  | cons x xs => rfl
theorem Bits.rev {xs : List Nat} (h : Bits xs) : Bits xs.reverse := fun x hx => h x (by simpa using hx)
theorem Bits.take {xs : List Nat} (h : Bits xs) (n : Nat) : Bits (xs.take n) := fun x hx => h x (List.mem_of_mem_take hx)
theorem Bits.drop {xs : List Nat} (h : Bits xs) (n : Nat) : Bits (xs.drop n) := fun x hx => h x (List.mem_of_mem_drop hx)
theorem Bits.perm {xs ys : List Nat} (h : Bits xs) (p : List.Perm ys xs) : Bits ys := fun x hx => h x (p.mem_iff.mp hx)
theorem rle_nil {xs : List Nat} : rle xs = [] ↔ xs = [] := by
  cases xs with
  | nil => simp [rle]
  | cons x xs => simp [rle_ne]
theorem Bits.hd {xs : List Nat} (h : Bits xs) : hd xs ≤ 1 := by
  cases xs with
  | nil => simp [DL.hd]
  | cons x xs => exact h x List.mem_cons_self
end DL

set_option maxRecDepth 100000
set_option maxHeartbeats 2000000
/-! DL39: a text repeated. -/
namespace DL
open PySem PySem.Spec L2
open Evl (Ex)
section
variable {X : Cx} {W : WX}
def rMulS : V → V → Hp → VK → Prop := fun x y H Q => ∃ (a : Str) (n : Int), x = .str a ∧ y = .int n ∧ 0 ≤ n ∧ n < 2 ^ 40 ∧ a.length * n.toNat ≤ 1000000 ∧ Q (.str (Txt.mul a n)) H
theorem mulOk_small {a : Str} {n : Int} (h1 : 0 ≤ n) (h2 : n < 2 ^ 40) (h3 : a.length * n.toNat ≤ 1000000) : MulOk a n := by
  refine ⟨by simp; omega, fun hn _ => ?_, fun hn _ => ?_⟩
  · have h4 : (a.length : Int) * n ≤ 1000000 := by
      have : ((a.length * n.toNat : Nat) : Int) ≤ 1000000 := by omega
      rw [Int.natCast_mul, Int.toNat_of_nonneg h1] at this
      exact this
    intro h5
    have h6 : (2 ^ 63 - 1) / n < (a.length : Int) := h5
    have h7 : (2 ^ 63 - 1 : Int) < (a.length : Int) * n := (Int.ediv_lt_iff_lt_mul (by omega)).mp h6
    omega
  · unfold Builtin.Str.tooLong
    have : (1000000 : Nat) ≤ sizeLine := by decide
    simp
    omega
theorem op_mul_strS : OpR X (binaryOp .Mult) rMulS := by
  intro pins s σ H x y v u Q I rx ry h
  obtain ⟨a, n, rfl, rfl, h1, h2, h3, q⟩ := h
  obtain ⟨t, rfl⟩ := rx
  obtain ⟨t', rfl⟩ := ry
  exact SB.mul (mulOk_small h1 h2 h3) fun t' k => ⟨.str (Txt.mul a n), H, I.tok _, ⟨_, rfl⟩, q⟩
/-- (the great bound must not be computed by the kernel) -/
noncomputable def gMulS : D → D → VRes
  | .str a, .int n => @ite _ (0 ≤ n ∧ n < 2 ^ 40 ∧ a.length * n.toNat ≤ 1000000) (Classical.propDecidable _) (.ok (.val (.str (Txt.mul a n)))) .bad
  | _, _ => .bad
theorem o_mulS : OpD X W (binaryOp .Mult) gMulS := OpD.of op_mul_strS fun σ H Fo A ρ x y dx dy Q S r1 r2 p => by
  cases r1 <;> cases r2 <;> first
    | exact p.elim
    | (obtain ⟨hc, p⟩ := @ifB _ _ (Classical.propDecidable _) _ _ (fun z : VRes => Post X.K W Fo A σ (z.at ρ) Q) p id
       exact ⟨_, _, rfl, rfl, hc.1, hc.2.1, hc.2.2, Post.now (d := .str _) p S (.str _)⟩)
end
theorem mul_bits {c n : Nat} : Txt.mul (bitsS [c]) (n : Int) = bitsS (List.replicate n c) := by
  unfold Txt.mul
  by_cases h0 : n = 0
  · subst h0; rfl
  · rw [if_neg (by omega)]
    by_cases h1 : n = 1
    · subst h1; rfl
    · have hb : ((n : Int) == 1 || (bitsS [c]).length == 0) = false := by
        rw [bits_len]
        simp
        omega
      rw [if_neg (by rw [hb]; simp)]
      apply str_ext
      rw [bits_toList, Int.toNat_natCast]
      have e : ∀ (k : Nat) (acc : Array Nat), ((List.replicate k (bitsS [c]).cps).foldl (· ++ ·) acc).toList = acc.toList ++ (List.replicate k (48 + c)) := fun k => by
        induction k with
        | zero => intro acc; simp
        | succ k ih =>
          intro acc
          rw [List.replicate_succ, List.foldl_cons, ih, List.replicate_succ]
          simp [bitsS]
      simp only [e]
      simp
end DL

set_option maxRecDepth 100000
set_option maxHeartbeats 2000000
/-! DL40: 0/1 texts joined. -/
namespace DL
open PySem PySem.Spec L2 TL
theorem joinL_nil : ∀ xs : List (List Nat), TL.joinL [] xs = xs.flatten
  | [] => rfl
  | [x] => by simp [TL.joinL]
  | x :: y :: xs => by
    have := joinL_nil (y :: xs)
    simp [TL.joinL] at this ⊢
    rw [this]
theorem tl_bits (xs : List Nat) : tl (bitsS xs) = xs.map (48 + ·) := bits_toList
theorem join_bits (bs : List (List Nat)) : Txt.join "" (bs.map bitsS) = bitsS bs.flatten := by
  apply tl_inj
  rw [join_eq, tl_join, tl_bits, show tl (Str.ofString "") = [] from by rw [tl_ofString]; rfl, joinL_nil, List.map_map, List.map_flatten]
  congr 1
theorem flat_one (xs : List Nat) : (xs.map fun x => [x]).flatten = xs := by
  induction xs with
  | nil => rfl
  | cons x xs ih => rw [List.map_cons, List.flatten_cons, ih]; rfl
theorem join_bit (xs : List Nat) : Txt.join "" (xs.map fun x => bitsS [x]) = bitsS xs := by
  have := join_bits (xs.map fun x => [x])
  rw [List.map_map, flat_one] at this
  exact this
theorem gJoin_bits {bs : List (List Nat)} (h : bs.flatten.length ≤ 16777216) : gJoin "" (.lst (bs.map fun b => D.str (bitsS b))) = .ok (.val (.str (bitsS bs.flatten))) := by
  have e : ((bs.map bitsS).map (·.length)).sum = bs.flatten.length := by
    rw [List.map_map, List.length_flatten]
    congr 1
    apply List.map_congr_left
    intro b _
    exact bits_len
  have j := gJoin_map (y := "") (ys := bs.map bitsS) (by
    rw [e]
    have e0 : (Str.ofString "").length = 0 := rfl
    rw [e0]
    omega)
  rw [List.map_map, join_bits] at j
  exact j
theorem gJoin_bit {xs : List Nat} (h : xs.length ≤ 16777216) : gJoin "" (.lst (xs.map fun x => D.str (bitsS [x]))) = .ok (.val (.str (bitsS xs))) := by
  have e := flat_one xs
  have j := gJoin_bits (bs := xs.map fun x => [x]) (by rw [e]; exact h)
  rw [List.map_map, e] at j
  exact j
theorem gStr_bit {c : Nat} (h : c ≤ 1) : gStr [.int (c : Int)] = .ok (.val (.str (bitsS [c]))) := by
  rw [gStr_n (by unfold big60; omega)]
  rcases (show c = 0 ∨ c = 1 by omega) with rfl | rfl
  · rw [bits_0]; rfl
  · rw [bits_1]; rfl
end DL

set_option maxRecDepth 100000
set_option maxHeartbeats 2000000
/-! DL41: orders of places, their repetitions and periods, in plain Lean. -/
namespace DL
def ap (ps : List Nat) (x : Nat) : Nat := ps.getD x 0
def it (ps : List Nat) : Nat → Nat → Nat
  | 0, x => x
  | k + 1, x => it ps k (ap ps x)
section
variable {ps : List Nat} {L : Nat}
theorem it_add : ∀ (a b x : Nat), it ps (a + b) x = it ps a (it ps b x)
  | a, 0, x => rfl
  | a, b + 1, x => by
    rw [← Nat.add_assoc]
    exact it_add a b (ap ps x)
theorem it_succ (k x : Nat) : it ps (k + 1) x = ap ps (it ps k x) := by
  rw [Nat.add_comm, it_add]
  rfl
structure POk (ps : List Nat) (L : Nat) : Prop where
  len : ps.length = L
  lt : ∀ x, x < L → ap ps x < L
  inj : ∀ x y, x < L → y < L → ap ps x = ap ps y → x = y
theorem POk.of (h : List.Perm ps (List.range L)) : POk ps L := by
  have hl : ps.length = L := by rw [h.length_eq, List.length_range]
  have nd : ps.Nodup := h.nodup_iff.mpr List.nodup_range
  have ge : ∀ x (hx : x < L), ap ps x = ps[x]'(by omega) := fun x hx => by
    unfold ap
    rw [List.getD_eq_getElem?_getD, List.getElem?_eq_getElem (by omega)]
    rfl
  refine ⟨hl, fun x hx => ?_, fun x y hx hy e => ?_⟩
  · rw [ge x hx]
    exact List.mem_range.mp (h.mem_iff.mp (List.getElem_mem _))
  · rw [ge x hx, ge y hy] at e
    rcases Nat.lt_trichotomy x y with q | q | q
    · exact absurd e (List.pairwise_iff_getElem.mp nd x y (by omega) (by omega) q)
    · exact q
    · exact absurd e.symm (List.pairwise_iff_getElem.mp nd y x (by omega) (by omega) q)
theorem POk.itlt (P : POk ps L) : ∀ (k x : Nat), x < L → it ps k x < L
  | 0, x, h => h
  | k + 1, x, h => P.itlt k _ (P.lt x h)
theorem POk.itinj (P : POk ps L) : ∀ (k x y : Nat), x < L → y < L → it ps k x = it ps k y → x = y
  | 0, x, y, _, _, e => e
  | k + 1, x, y, hx, hy, e => P.inj x y hx hy (P.itinj k _ _ (P.lt x hx) (P.lt y hy) e)
/-- k repetitions -/
def itL (ps : List Nat) (L k : Nat) : List Nat := (List.range L).map (it ps k)
theorem itL_id {k : Nat} : itL ps L k = List.range L ↔ ∀ x, x < L → it ps k x = x := by
  unfold itL
  constructor
  · intro h x hx
    have := congrArg (fun l => l[x]?) h
    simp [hx] at this
    exact this
  · intro h
    apply List.ext_getElem
    · simp
    · intro i h1 h2
      simp at h1
      simp [h i h1]
theorem itL_one (hl : ps.length = L) : itL ps L 1 = ps := by
  unfold itL
  apply List.ext_getElem
  · simp [hl]
  · intro i h1 h2
    simp [it, ap, h2]
/-! ### cycles -/
def cyc (ps : List Nat) (s k : Nat) : List Nat := (List.range k).map fun j => it ps j s
theorem cyc_succ (s k : Nat) : cyc ps s (k + 1) = cyc ps s k ++ [it ps k s] := by
  unfold cyc
  rw [List.range_succ, List.map_append]
  rfl
theorem cyc_len (s k : Nat) : (cyc ps s k).length = k := by simp [cyc]
theorem mem_cyc {s k x : Nat} : x ∈ cyc ps s k ↔ ∃ j, j < k ∧ it ps j s = x := by simp [cyc]
/-- S: whole cycles -/
structure Whole (ps : List Nat) (L : Nat) (S : List Nat) : Prop where
  nd : S.Nodup
  lt : ∀ x ∈ S, x < L
  fwd : ∀ x ∈ S, ap ps x ∈ S
  bwd : ∀ x, x < L → ap ps x ∈ S → x ∈ S
theorem Whole.bk {S : List Nat} (P : POk ps L) (W : Whole ps L S) : ∀ (k x : Nat), x < L → it ps k x ∈ S → x ∈ S
  | 0, x, _, h => h
  | k + 1, x, hx, h => W.bwd x hx (W.bk P k _ (P.lt x hx) h)
theorem Whole.nil : Whole ps L [] := ⟨List.nodup_nil, fun x h => (by cases h), fun x h => (by cases h), fun x _ h => (by cases h)⟩
theorem nodup_lt : ∀ {n : Nat} {xs : List Nat}, xs.Nodup → (∀ x ∈ xs, x < n) → xs.length ≤ n
  | 0, xs, _, h => by
    cases xs with
    | nil => simp
    | cons x xs => exact absurd (h x List.mem_cons_self) (by omega)
  | n + 1, xs, nd, h => by
    have ih := nodup_lt (n := n) (xs := xs.erase n) (nd.erase n) (fun x hx => by
      obtain ⟨h1, h2⟩ := (nd.mem_erase_iff).mp hx
      have := h x h2
      omega)
    by_cases q : n ∈ xs
    · rw [List.length_erase_of_mem q] at ih
      omega
    · rw [List.erase_of_not_mem q] at ih
      omega
/-- the places seen so far, on the way round from s -/
structure Way (ps : List Nat) (L : Nat) (S : List Nat) (s k : Nat) : Prop where
  sl : s < L
  so : s ∉ S
  nd : (S ++ cyc ps s k).Nodup
theorem Way.zero {S : List Nat} {s : Nat} (W : Whole ps L S) (hs : s < L) (h : s ∉ S) : Way ps L S s 0 := ⟨hs, h, by simpa [cyc] using W.nd⟩
theorem Way.le {S : List Nat} {s k : Nat} (P : POk ps L) (W : Whole ps L S) (y : Way ps L S s k) : S.length + k ≤ L := by
  have := nodup_lt (n := L) y.nd fun x hx => by
    rcases List.mem_append.mp hx with h | h
    · exact W.lt x h
    · obtain ⟨j, _, rfl⟩ := mem_cyc.mp h
      exact P.itlt j s y.sl
  rw [List.length_append, cyc_len] at this
  exact this
theorem Way.next {S : List Nat} {s k : Nat} (y : Way ps L S s k) (h : it ps k s ∉ S ++ cyc ps s k) : Way ps L S s (k + 1) := by
  refine ⟨y.sl, y.so, ?_⟩
  rw [cyc_succ, ← List.append_assoc]
  exact List.nodup_append.mpr ⟨y.nd, by simp, fun a ha b hb => by simp at hb; subst hb; intro e; subst e; exact h ha⟩
theorem Way.ends {S : List Nat} {s k : Nat} (P : POk ps L) (W : Whole ps L S) (y : Way ps L S s k) (h : it ps k s ∈ S ++ cyc ps s k) : 0 < k ∧ it ps k s = s := by
  have h1 : it ps k s ∉ S := fun q => y.so (W.bk P k s y.sl q)
  rcases List.mem_append.mp h with h | h
  · exact absurd h h1
  · obtain ⟨j, hj, e⟩ := mem_cyc.mp h
    refine ⟨by omega, ?_⟩
    obtain ⟨d, rfl⟩ : ∃ d, k = j + d := ⟨k - j, by omega⟩
    have e2 : it ps j (it ps d s) = it ps j s := by rw [← it_add]; exact e.symm
    have e3 := P.itinj j _ _ (P.itlt d s y.sl) y.sl e2
    by_cases hj0 : j = 0
    · subst hj0
      rw [Nat.zero_add]
      exact e3
    · have nd := (List.nodup_append.mp y.nd).2.1
      unfold cyc at nd
      have := List.pairwise_iff_getElem.mp nd 0 d (by simp; omega) (by simp; omega) (by omega)
      simp [e3] at this
      exact absurd rfl this
theorem it_mul {s n : Nat} (h : it ps n s = s) : ∀ q : Nat, it ps (n * q) s = s
  | 0 => rfl
  | q + 1 => by rw [Nat.mul_succ, it_add, h, it_mul h q]
theorem Way.dvd {S : List Nat} {s k : Nat} (y : Way ps L S s k) (h0 : 0 < k) (he : it ps k s = s) (m : Nat) : it ps m s = s ↔ k ∣ m := by
  constructor
  · intro h
    have e : it ps (m % k) s = s := by
      have : m = m % k + k * (m / k) := by rw [Nat.add_comm]; exact (Nat.div_add_mod m k).symm
      rw [this, it_add, it_mul he] at h
      exact h
    by_cases q : m % k = 0
    · exact Nat.dvd_of_mod_eq_zero q
    · have hlt := Nat.mod_lt m h0
      have nd := (List.nodup_append.mp y.nd).2.1
      unfold cyc at nd
      have := List.pairwise_iff_getElem.mp nd 0 (m % k) (by simp; omega) (by simp; omega) (by omega)
      simp [e] at this
      exact absurd rfl this
  · rintro ⟨q, rfl⟩
    exact it_mul he q
theorem Way.whole {S : List Nat} {s k : Nat} (P : POk ps L) (W : Whole ps L S) (y : Way ps L S s k) (h0 : 0 < k) (he : it ps k s = s) : Whole ps L (S ++ cyc ps s k) := by
  refine ⟨y.nd, fun x hx => ?_, fun x hx => ?_, fun x hx h => ?_⟩
  · rcases List.mem_append.mp hx with h | h
    · exact W.lt x h
    · obtain ⟨j, _, rfl⟩ := mem_cyc.mp h
      exact P.itlt j s y.sl
  · rcases List.mem_append.mp hx with h | h
    · exact List.mem_append_left _ (W.fwd x h)
    · obtain ⟨j, hj, rfl⟩ := mem_cyc.mp h
      refine List.mem_append_right _ (mem_cyc.mpr ?_)
      rw [← it_succ]
      by_cases q : j + 1 = k
      · exact ⟨0, h0, by rw [q, he]; rfl⟩
      · exact ⟨j + 1, by omega, rfl⟩
  · rcases List.mem_append.mp h with h | h
    · exact List.mem_append_left _ (W.bwd x hx h)
    · obtain ⟨j, hj, e⟩ := mem_cyc.mp h
      refine List.mem_append_right _ (mem_cyc.mpr ?_)
      cases j with
      | zero =>
        refine ⟨k - 1, by omega, ?_⟩
        refine P.inj _ _ (P.itlt _ _ y.sl) hx ?_
        rw [← it_succ, show k - 1 + 1 = k by omega, he]
        exact e
      | succ j =>
        refine ⟨j, by omega, ?_⟩
        refine P.inj _ _ (P.itlt _ _ y.sl) hx ?_
        rw [← it_succ]
        exact e
/-- R: the period of what was seen -/
structure Per (ps : List Nat) (S : List Nat) (R : Nat) : Prop where
  iff : ∀ m, (∀ x ∈ S, it ps m x = x) ↔ R ∣ m
  pos : 0 < R
  le : R ≤ 2 ^ S.length
theorem Per.nil : Per ps [] 1 := ⟨fun m => ⟨fun _ => Nat.one_dvd m, fun _ x h => by cases h⟩, by decide, by decide⟩
theorem lcm_eq {R n : Nat} (hn : 0 < n) : R / Nat.gcd R n * n = Nat.lcm R n := by
  unfold Nat.lcm
  rw [Nat.mul_comm, ← Nat.mul_div_assoc n (Nat.gcd_dvd_left R n), Nat.mul_comm]
theorem Per.add {S : List Nat} {s k R : Nat} (p : Per ps S R) (y : Way ps L S s k) (h0 : 0 < k) (he : it ps k s = s) : Per ps (S ++ cyc ps s k) (Nat.lcm R k) := by
  have hk : k ≤ 2 ^ k := Nat.le_of_lt Nat.lt_two_pow_self
  refine ⟨fun m => ?_, Nat.lcm_pos p.pos h0, ?_⟩
  · have e1 : (∀ x ∈ S ++ cyc ps s k, it ps m x = x) ↔ (∀ x ∈ S, it ps m x = x) ∧ it ps m s = s := by
      constructor
      · intro h
        exact ⟨fun x hx => h x (List.mem_append_left _ hx), h s (List.mem_append_right _ (mem_cyc.mpr ⟨0, h0, rfl⟩))⟩
      · rintro ⟨h1, h2⟩ x hx
        rcases List.mem_append.mp hx with h | h
        · exact h1 x h
        · obtain ⟨j, _, rfl⟩ := mem_cyc.mp h
          rw [← it_add, Nat.add_comm, it_add, h2]
    rw [e1, p.iff m, y.dvd h0 he m]
    constructor
    · rintro ⟨h1, h2⟩
      exact Nat.lcm_dvd h1 h2
    · intro h
      exact ⟨Nat.dvd_trans (Nat.dvd_lcm_left R k) h, Nat.dvd_trans (Nat.dvd_lcm_right R k) h⟩
  · rw [List.length_append, cyc_len, Nat.pow_add]
    have : Nat.lcm R k ≤ R * k := Nat.le_of_dvd (Nat.mul_pos p.pos h0) (Nat.lcm_dvd (Nat.dvd_mul_right R k) (Nat.dvd_mul_left k R))
    exact Nat.le_trans this (Nat.mul_le_mul p.le hk)
end
end DL

set_option maxRecDepth 100000
set_option maxHeartbeats 2000000
/-! DL42: every second item, len(set(xs)), s.index(t). -/
namespace DL
open PySem PySem.Spec L2 PyProof.Rows
open Evl (Ex)
/-! ### xs[n::2] -/
def halfL {α : Type} (n : Nat) (xs : List α) : List α := (PySem.sliceRange (n : Int) (xs.length : Int) 2).filterMap (xs[·]?)
theorem halfL_len {α : Type} (n : Nat) (xs : List α) : (halfL n xs).length ≤ xs.length := by
  unfold halfL
  refine Nat.le_trans (List.length_filterMap_le _ _) ?_
  exact sliceRange_length_le (n : Int) (xs.length : Int) 2 xs.length (fun _ => ⟨by omega, by omega⟩) (fun h => absurd (by decide) h)
theorem RepL.half {K : PySem.W.Frag} {A : Hp} {vs : List V} {ds : List D} (r : RepL K A vs ds) (n : Nat) : RepL K A (halfL n vs) (halfL n ds) := by
  unfold halfL
  rw [r.length]
  generalize PySem.sliceRange (n : Int) (ds.length : Int) 2 = l
  induction l with
  | nil => exact .nil
  | cons i l ih =>
    rw [List.filterMap_cons, List.filterMap_cons]
    cases e : ds[i]? with
    | none =>
      have e2 : vs[i]? = none := by
        rw [List.getElem?_eq_none_iff] at e ⊢
        rw [r.length]
        exact e
      rw [e2]
      exact ih
    | some d =>
      obtain ⟨v, e2, e3⟩ := r.get e
      rw [e2]
      exact .cons e3 ih
theorem vals_half : ∀ {vs : List V} {us : List Value}, Vals vs us → ∀ l : List Nat, Vals (l.filterMap (vs[·]?)) (l.filterMap (us[·]?)) := fun {vs us} r l => by
  induction l with
  | nil => exact .nil
  | cons i l ih =>
    rw [List.filterMap_cons, List.filterMap_cons]
    cases e : vs[i]? with
    | none =>
      have e2 : us[i]? = none := by
        rw [List.getElem?_eq_none_iff] at e ⊢
        rw [← r.length]
        exact e
      rw [e2]
      exact ih
    | some v =>
      obtain ⟨u, e2, e3⟩ := r.get e
      rw [e2]
      exact .cons e3 ih
def tHalf (K : PySem.W.Frag) (te tl ts : TE) : TE := fun σ H Q => te σ H fun x H1 => tl σ H1 fun y H2 => ts σ H2 fun z H3 => ∃ (a : Addr) (xs : List V) (n : Nat), x = .ref a ∧ y = .int n ∧ z = .int 2 ∧ SqL K H3 a xs ∧ n ≤ xs.length ∧ ∀ p, H3 p = none → Q (.ref p) (upd H3 p (.lst (halfL n xs)))
section
variable {X : Cx} {W : WX} {e lo st : Expr} {te tl ts : TE} {p2 pos : Pos}
theorem pe_half (he : PE X e te) (hl : PE X lo tl) (hs : PE X st ts) : PE X (.Subscript e (.Slice (some lo) none (some st) p2) pos) (tHalf X.K te tl ts) := by
  refine ⟨fun pins s σ H Q I h => ?_⟩
  refine Subscript_ (thn (he.run pins s σ H _ I h) fun v s1 ⟨x, H1, I1, r1, q1⟩ => ?_)
  refine PySem.wpAny_Slice ?_
  rw [evalPart_some, evalPart_none, evalPart_some]
  refine thn (hl.run pins s1 σ H1 _ I1 q1) fun vl s2 ⟨y, H2, I2, r2, q2⟩ => ?_
  refine wpAny_pure (thn (hs.run pins s2 σ H2 _ I2 q2) fun vs s3 ⟨z, H3, I3, r3, q3⟩ => ?_)
  obtain ⟨a, xs, n, rfl, rfl, rfl, hq, hn, q⟩ := q3
  cases r1
  obtain ⟨t, rfl⟩ := r2
  obtain ⟨t', rfl⟩ := r3
  have I4 : Inv X pins σ H3 { s3 with heap := s3.heap.push { cls := .type "slice", data := .fields #[.int n t, .none, .int 2 t'] } } := I3.kept (t' := s3.toks) fun b ob q => Heap.get?_push_of_some _ q
  obtain ⟨its, r, ht, hz⟩ := I4.list hq
  have hlen := r.length
  refine tail_any (ops := [.ref a, .ref s3.heap.objs.size]) (T := "list") ht.isList.typeIs PySem.F.slot_list_getitem.lookup ?_ (by with_unfolding_all rfl)
  refine wpAny_getItem_list_slice (lo := some n) (hi := none) (st := some 2) ht.isList (Heap.IsSliceOf.new ..) (.int n t) .none (.int 2 t') (by simp) ?_ (by rw [List.size_toArray] <;> omega)
  have e1 : slicePick its.toArray (some (n : Int)) none (some 2) = (halfL n its).toArray := by
    unfold slicePick halfL sliceBounds
    have h1 : ¬ ((n : Int) < 0) := by omega
    have h2 : max 0 (min (n : Int) (its.length : Int)) = (n : Int) := by omega
    simp [h1, h2]
  rw [e1]
  refine ⟨.ref _, _, I4.laid (t' := s3.toks) (o := .lst (halfL n xs)) (fun b ob q => Heap.get?_push_of_some _ q) (Nat.le_refl _) ?_, rfl, q _ (I4.hok.fresh (Nat.le_refl _))⟩
  refine ⟨Nat.le_trans (halfL_len n xs) hz, _, 0, ?_, Heap.get?_push_size _ rfl⟩
  unfold halfL
  rw [hlen]
  exact vals_half r _
def gHalf : D → D → VRes
  | .lst xs, .int n => if 0 ≤ n ∧ n.toNat ≤ xs.length then .ok (.own (.lst (halfL n.toNat xs))) else .bad
  | _, _ => .bad
theorem de_half {d1 d2 : DEn} (he : DE X W e d1) (hl : DE X W lo d2) (hs : DE X W st (dC (.int 2))) : DE X W (.Subscript e (.Slice (some lo) none (some st) p2) pos) (dBin gHalf d1 d2) :=
  PE.weak (pe_half he hl hs) fun σ H Q ⟨Fo, A, ρ, S, p⟩ => ⟨Fo, A, ρ, S, post_bind p fun x dx A1 H1 ρ1 e1 S1 r1 p1 => ⟨Fo, A1, ρ1, S1, post_bind p1 fun y dy A2 H2 ρ2 e2 S2 r2 p2 => ⟨Fo, A2, ρ2, S2, by
    intro z A3 H3 e3 S3 r3
    cases r3 with
    | val r3 =>
      cases r3
      cases r1 <;> cases r2 <;> first
        | exact p2.elim
        | (rename_i a xs ds h l n
           obtain ⟨hc, p3⟩ := ifB (P := fun z : VRes => Post X.K W Fo A2 σ (z.at ρ2) Q) p2 (fun z => z)
           have hn : ((n.toNat : Nat) : Int) = n := Int.toNat_of_nonneg hc.1
           refine ⟨a, xs, n.toNat, rfl, by rw [hn], rfl, .inl (.inl (S3.ex _ _ (e3 _ _ (e2 _ _ h)))), by rw [l.length]; exact hc.2, fun q hq => Post.newL (Post.ext p3 e3) S3 hq ((l.half n.toNat).mn (e2.trans e3))⟩)⟩⟩⟩
/-! ### len(set(xs)), all different -/
noncomputable def gLenSet : D → VRes
  | .lst xs => match intsOf xs with
    | some ns => @ite _ (ns.Nodup ∧ ns.length ≤ 4000) (Classical.propDecidable _) (.ok (.val (.int (ns.length : Nat)))) .bad
    | none => .bad
  | _ => .bad
theorem de_lenSet {a : Expr} {d : DEn} {p q : Pos} {p' : Pos} (hg : Gl X "len") (hm : X.mg "len" = none) (hg2 : Gl X "set") (hm2 : X.mg "set" = none) (ha : DE X W a d) (hc : X.calm = true := by rfl)
    (na : starEach [a] X.env = (false, eval a X.env) :: starEach [] X.env := by rfl) : DE X W (.Call (.Name "len" p) [.Call (.Name "set" p') [a] [] q] [] pos) (dUn gLenSet d) :=
  PE.weak (RZ.pe_lenSetI hg hm hg2 hm2 ha hc na) fun σ H Q ⟨Fo, A, ρ, S, p⟩ => ⟨Fo, A, ρ, S, post_bind p fun x dx A1 H1 ρ1 e1 S1 r1 p1 => by
    cases r1 <;> first
      | exact p1.elim
      | (rename_i a xs ds h l
         unfold gLenSet at p1
         dsimp only at p1
         cases hi : intsOf ds with
         | none => rw [hi] at p1; exact p1.elim
         | some ns =>
           rw [hi] at p1
           obtain ⟨hc2, p2⟩ := @ifB _ _ (Classical.propDecidable _) _ _ (fun z : VRes => Post X.K W Fo A1 σ (z.at ρ1) Q) p1 (fun z => z)
           have hx := l.intsV hi
           subst hx
           exact ⟨a, ns, rfl, .inl (.inl (S1.ex _ _ h)), hc2.1, hc2.2, Post.now p2 S1 (.int _)⟩)⟩
/-! ### s.index(t) -/
def gIndexS (a : Str) : D → VRes
  | .str b => match Txt.index0 a b with
    | some k => .ok (.val (.int (k : Nat)))
    | none => .bad
  | _ => .bad
theorem de_indexS {o x : Expr} {d1 d2 : DEn} {apos cpos : Pos} (hc : X.calm = true) (tk : Takes X W) (ho : DE X W o d1) (he : DE X W x d2)
    (hbase : attributeBase o "index" X.env (eval o X.env) = eval o X.env := by rfl)
    (hfew : ((backTo cpos (starEach [x] X.env)).all (fun x => !x.1) && (backToKw cpos (keywordEach [] X.env)).all (fun x => x.1.isSome)
      && decide ([x].length + ([] : List Keyword).length + (if ([] : List Keyword).isEmpty then 0 else 1) < 30)) = true := by rfl)
    (hline : (apos.endLine == cpos.line) = true := by rfl) (hs : starEach [x] X.env = (false, eval x X.env) :: starEach [] X.env := by rfl) (hplain : (backTo cpos (starEach [] X.env)).any (·.1) = false := by rfl) :
    DE X W (.Call (.Attribute o "index" apos) [x] [] cpos) (dMetS gIndexS d1 d2) :=
  PE.weak (pe_bmS PySem.F.plainAttrs_str PySem.F.slot_str_index PySem.F.type_str_index (mt_indexX hc tk) ho (pa_cons he pa_nil hs) hbase hfew hline hs hplain) fun σ H Q ⟨Fo, A, ρ, S, p⟩ => ⟨Fo, A, ρ, S, post_bind p fun x dx A1 H1 ρ1 e1 S1 r1 p1 => by
    cases r1 with
    | str a =>
      refine ⟨rfl, Fo, A1, ρ1, S1, post_bind p1 fun y dy A2 H2 ρ2 e2 S2 r2 p2 => ?_⟩
      cases r2 with
      | str b =>
        unfold gIndexS at p2
        dsimp only at p2
        cases hk : Txt.index0 a b with
        | none => rw [hk] at p2; exact p2.elim
        | some k =>
          rw [hk] at p2
          refine ⟨a, b, rfl, rfl, fun k' h' => ?_, fun h' => by rw [hk] at h'; cases h'⟩
          rw [hk] at h'; cases h'
          exact Post.now p2 S2 (.int _)
      | _ => exact p2.elim
    | _ => exact p1.elim⟩
end
end DL

set_option maxRecDepth 100000
set_option maxHeartbeats 2000000
/-! DL43: counted colours, mirrored flips, repeated and undone orders, cycles, in plain Lean. -/
namespace DL
open PySem PySem.Spec L2
/-! ### counted colours -/
theorem slice2 (n len : Nat) : PySem.sliceRange (n : Int) (len : Int) 2 = (List.range ((len + 1 - n) / 2)).map fun k => n + 2 * k := by
  unfold PySem.sliceRange
  have e : (if (2 : Int) > 0 then (if (n : Int) < (len : Int) then ((len : Int) - n + 2 - 1) / 2 else 0) else (if (n : Int) > (len : Int) then ((n : Int) - len - 2 - 1) / (-2) else 0)) = (((len + 1 - n) / 2 : Nat) : Int) := by
    rw [if_pos (by decide)]
    split <;> omega
  simp only [e]
  rw [Int.toNat_natCast]
  apply List.map_congr_left
  intro k _
  omega
def evs : List Nat → List Nat
  | [] => []
  | [x] => [x]
  | x :: _ :: r => x :: evs r
theorem half_eq {n : Nat} {xs : List Nat} : halfL n xs = (List.range ((xs.length + 1 - n) / 2)).filterMap fun k => xs[n + 2 * k]? := by
  unfold halfL
  rw [slice2, List.filterMap_map]
  rfl
theorem half_0 : ∀ xs : List Nat, halfL 0 xs = evs xs
  | [] => by rw [half_eq]; simp [evs]
  | [x] => by rw [half_eq]; simp [evs]
  | x :: y :: r => by
    have ih := half_0 r
    rw [half_eq] at ih ⊢
    have e : ((x :: y :: r).length + 1 - 0) / 2 = (r.length + 1 - 0) / 2 + 1 := by simp only [List.length_cons]; omega
    have f : (fun k => (x :: y :: r)[0 + 2 * (k + 1)]?) = fun k => r[0 + 2 * k]? := funext fun k => by
      rw [show 0 + 2 * (k + 1) = (0 + 2 * k) + 1 + 1 by omega]
      simp
    rw [e, List.range_succ_eq_map, List.filterMap_cons, List.filterMap_map]
    have g : ((fun k => (x :: y :: r)[0 + 2 * k]?) ∘ Nat.succ) = fun k => r[0 + 2 * k]? := f
    rw [g, ih]
    simp [evs]
theorem half_1 (x : Nat) (xs : List Nat) : halfL 1 (x :: xs) = evs xs := by
  rw [← half_0, half_eq, half_eq]
  have e : ((x :: xs).length + 1 - 1) / 2 = (xs.length + 1 - 0) / 2 := by simp only [List.length_cons]; omega
  have f : (fun k => (x :: xs)[1 + 2 * k]?) = fun k => xs[0 + 2 * k]? := funext fun k => by
    rw [show 1 + 2 * k = (0 + 2 * k) + 1 by omega]
    simp
  rw [e, f]
theorem count_expand : ∀ (ns : List Nat) (c : Nat), c ≤ 1 → (expand c ns).count c = (evs ns).sum ∧ (expand c ns).count (1 - c) = (evs ns.tail).sum
  | [], c, _ => by simp [expand, evs]
  | [n], c, h => by
    have : ¬ c = 1 - c := by omega
    simp [expand, evs, List.count_replicate, this]
  | n :: m :: r, c, h => by
    obtain ⟨h1, h2⟩ := count_expand r c h
    have e : expand c (n :: m :: r) = List.replicate n c ++ (List.replicate m (1 - c) ++ expand c r) := by
      simp only [expand]
      rw [show 1 - (1 - c) = c by omega]
    rw [e, List.count_append, List.count_append, List.count_append, List.count_append, h1, h2, List.count_replicate, List.count_replicate, List.count_replicate, List.count_replicate]
    have a : ¬ c = 1 - c := by omega
    have b : ¬ 1 - c = c := by omega
    refine ⟨?_, ?_⟩
    · simp [a, b, evs]
    · cases r with
      | nil => simp [a, b, evs]
      | cons k r => simp [a, b, evs]
/-! ### mirrored flips -/
def mir (L : Nat) (f : Nat × Nat) : Nat × Nat := (L - f.2, L - f.1)
theorem turn_mir {α : Type} {s e L : Nat} {xs : List α} (hl : xs.length = L) (h1 : s ≤ e) (h2 : e ≤ L) : turn (L - e) (L - s) xs.reverse = (turn s e xs).reverse := by
  obtain ⟨P, M, S, rfl, h3, h4⟩ := parts (xs := xs) h1 (by omega)
  simp only [List.length_append] at hl
  rw [turn_app h3 h4, List.reverse_append, List.reverse_append, ← List.append_assoc, turn_app (by rw [List.length_reverse]; omega) (by rw [List.length_reverse]; omega)]
  simp
theorem FOk.mir {L : Nat} {fs : Fs} (ok : FOk L fs) : FOk L (fs.map (mir L)) := fun f h => by
  obtain ⟨g, hg, rfl⟩ := List.mem_map.mp h
  have := ok g hg
  unfold DL.mir
  omega
theorem fold_mir {α : Type} {L : Nat} : ∀ {fs : Fs} {xs : List α}, FOk L fs → xs.length = L → fold (fs.map (mir L)) xs.reverse = (fold fs xs).reverse
  | [], xs, _, _ => rfl
  | f :: fs, xs, ok, h => by
    have h1 := ok f List.mem_cons_self
    show fold (fs.map (mir L)) (turn (L - f.2) (L - f.1) xs.reverse) = (fold fs (turn f.1 f.2 xs)).reverse
    rw [turn_mir h (by omega) (by omega)]
    exact fold_mir ok.tail ((turn_len (by omega) (by omega)).trans h)
/-! ### repeated and undone orders -/
theorem apL {ps : List Nat} {i : Nat} (h : i < ps.length) : ap ps i = ps[i] := by
  unfold ap
  rw [List.getD_eq_getElem?_getD, List.getElem?_eq_getElem h]
  rfl
theorem map_ap {L : Nat} {w : List Nat} (hl : w.length = L) : (List.range L).map (ap w) = w := by
  apply List.ext_getElem
  · simp [hl]
  · intro i h1 h2
    simp [apL h2]
theorem fold_ap {L : Nat} {fs : Fs} {w : List Nat} (hl : w.length = L) : fold fs w = (mv L fs).map (ap w) := by
  unfold mv
  rw [fold_map, map_ap hl]
theorem itL_len {ps : List Nat} {L k : Nat} : (itL ps L k).length = L := by simp [itL]
theorem itL_at {ps : List Nat} {L k i : Nat} (h : i < L) : ap (itL ps L k) i = it ps k i := by
  rw [apL (by rw [itL_len]; exact h)]
  simp [itL]
theorem mv_rep {L : Nat} {fs : Fs} (ok : FOk L fs) : ∀ n : Nat, mv L (List.replicate n fs).flatten = itL (mv L fs) L n
  | 0 => by
    show List.range L = _
    exact (itL_id.mpr fun x _ => rfl).symm
  | n + 1 => by
    rw [List.replicate_succ, List.flatten_cons, mv_app, fold_ap (mv_len ok), mv_rep ok n]
    unfold itL
    rw [List.map_map]
    apply List.map_congr_left
    intro i _
    exact (it_succ n i).symm
theorem mv_undo {L : Nat} {fs : Fs} (ok : FOk L fs) {x : Nat} (hx : x < L) : ap (mv L fs.reverse) (ap (mv L fs) x) = x := by
  have e := mv_rev ok.rev
  rw [List.reverse_reverse, mv_app, fold_ap (mv_len ok.rev)] at e
  have := congrArg (fun l => ap l x) e
  rw [apL (by rw [List.length_map, mv_len ok]; exact hx), apL (by simpa using hx)] at this
  rw [List.getElem_map, List.getElem_range] at this
  rw [apL (ps := mv L fs) (by rw [mv_len ok]; exact hx)]
  exact this
theorem it_undo {L : Nat} {fs : Fs} (ok : FOk L fs) : ∀ (m x : Nat), x < L → it (mv L fs.reverse) m (it (mv L fs) m x) = x
  | 0, x, _ => rfl
  | m + 1, x, hx => by
    have P := POk.of (mv_perm ok)
    rw [it_succ m x]
    show it (mv L fs.reverse) m (ap (mv L fs.reverse) (ap (mv L fs) (it (mv L fs) m x))) = x
    rw [mv_undo ok (P.itlt m x hx)]
    exact it_undo ok m x hx
theorem itL_undo {L : Nat} {fs : Fs} (ok : FOk L fs) (m : Nat) : itL (mv L fs.reverse) L m = List.range L ↔ itL (mv L fs) L m = List.range L := by
  have P := POk.of (mv_perm ok)
  rw [itL_id, itL_id]
  constructor
  · intro h x hx
    have := it_undo ok m x hx
    rw [h _ (P.itlt m x hx)] at this
    exact this
  · intro h x hx
    have := it_undo ok m x hx
    rw [h x hx] at this
    exact this
/-! ### known cycles -/
def lcmL : List Nat → Nat
  | [] => 1
  | n :: ns => Nat.lcm n (lcmL ns)
theorem lcmL_dvd {m : Nat} : ∀ {ns : List Nat}, lcmL ns ∣ m ↔ ∀ n ∈ ns, n ∣ m
  | [] => by simp [lcmL]
  | n :: ns => by
    have ih := lcmL_dvd (m := m) (ns := ns)
    unfold lcmL
    constructor
    · intro h k hk
      rcases List.mem_cons.mp hk with rfl | hk
      · exact Nat.dvd_trans (Nat.dvd_lcm_left _ _) h
      · exact ih.mp (Nat.dvd_trans (Nat.dvd_lcm_right _ _) h) k hk
    · intro h
      exact Nat.lcm_dvd (h n List.mem_cons_self) (ih.mpr fun k hk => h k (List.mem_cons_of_mem _ hk))
/-- cycles (where, how many) -/
structure Blk (ps : List Nat) (L : Nat) (bs : List (Nat × Nat)) : Prop where
  go : ∀ b ∈ bs, ∀ j, j < b.2 → ap ps (b.1 + j) = b.1 + (j + 1) % b.2
  all : ∀ x, x < L → ∃ b ∈ bs, b.1 ≤ x ∧ x < b.1 + b.2
  lt : ∀ b ∈ bs, b.1 + b.2 ≤ L ∧ 0 < b.2
theorem Blk.it {ps : List Nat} {L : Nat} {bs : List (Nat × Nat)} (B : Blk ps L bs) {b : Nat × Nat} (hb : b ∈ bs) : ∀ (m j : Nat), j < b.2 → it ps m (b.1 + j) = b.1 + (j + m) % b.2
  | 0, j, hj => by
    rw [Nat.add_zero, Nat.mod_eq_of_lt hj]
    rfl
  | m + 1, j, hj => by
    show DL.it ps m (ap ps (b.1 + j)) = _
    rw [B.go b hb j hj, B.it hb m _ (Nat.mod_lt _ (B.lt b hb).2), Nat.mod_add_mod, Nat.add_right_comm, Nat.add_assoc]
theorem Blk.id {ps : List Nat} {L : Nat} {bs : List (Nat × Nat)} (B : Blk ps L bs) (m : Nat) : itL ps L m = List.range L ↔ lcmL (bs.map (·.2)) ∣ m := by
  rw [itL_id, lcmL_dvd]
  constructor
  · intro h n hn
    obtain ⟨b, hb, rfl⟩ := List.mem_map.mp hn
    have hl := B.lt b hb
    have e := B.it hb m 0 hl.2
    rw [Nat.add_zero, h b.1 (by omega), Nat.zero_add] at e
    exact Nat.dvd_of_mod_eq_zero (by omega)
  · intro h x hx
    obtain ⟨b, hb, h1, h2⟩ := B.all x hx
    obtain ⟨j, rfl⟩ : ∃ j, x = b.1 + j := ⟨x - b.1, by omega⟩
    rw [B.it hb m j (by omega)]
    obtain ⟨q, rfl⟩ := h b.2 (List.mem_map.mpr ⟨b, hb, rfl⟩)
    rw [Nat.add_mul_mod_self_left, Nat.mod_eq_of_lt (by omega)]
end DL

set_option maxRecDepth 100000
set_option maxHeartbeats 2000000
/-! DL44: list(d.values()) of a locked dict. -/
namespace DL
open PySem PySem.Spec L2 PyProof.Rows
open Evl (Ex)
def rVals : V → Hp → VK → Prop := fun x H Q => ∃ (d : Addr) (o : Obj) (kvs : List (Key × V)), x = .ref d ∧ H d = some (.frz o (.dK kvs)) ∧ kvs.length ≤ sizeLine ∧ ∀ p : Addr, H p = none → Q (.ref p) (upd H p (.lst (kvs.map (·.2))))
section
variable {X : Cx} {W : WX} {e : Expr} {te : TE} {p apos cpos pos : Pos}
theorem kv_vals : ∀ {kvs : List (Key × V)} {vs : List (Key × Value)}, KV kvs vs → Vals (kvs.map (·.2)) (vs.map (·.2))
  | _, _, .nil => .nil
  | _, _, .cons h t => .cons h.2 (kv_vals t)
theorem pe_listVals (hc : X.calm = true) (he : PE X e te) (hg : Gl X "list") (hm : X.mg "list" = none) (hbase : attributeBase e "values" X.env (eval e X.env) = eval e X.env := by rfl) (hline : (apos.endLine == cpos.line) = true := by rfl)
    (hs : starEach [.Call (.Attribute e "values" apos) [] [] cpos] X.env = (false, eval (.Call (.Attribute e "values" apos) [] [] cpos) X.env) :: starEach [] X.env := by rfl) :
    PE X (.Call (.Name "list" p) [.Call (.Attribute e "values" apos) [] [] cpos] [] pos) (fun σ H Q => te σ H fun x H1 => rVals x H1 Q) := by
  refine ⟨fun pins s σ H Q I hq => ?_⟩
  refine wpAny_Call_Name_kw (ld_blt I hg hm (show bootBuiltins "list" = some (.type "list") by decide +kernel) ?_)
  refine PyProof.Rows.callWith_type1 ?_ hs rfl
  rw [hs]
  show wpAny _ _ (spliced ((false, eval (.Call (.Attribute e "values" apos) [] [] cpos) X.env) :: backTo pos (starEach [] X.env))) _ _ s
  refine Calls.spliced_cons ?_
  refine wpAny_Call_method (T := "dict") (id := "dict.values") hbase rfl hline F.plainAttrs_dict F.slot_dict_values F.type_dict_values (thn (he.run pins s σ H _ I hq) fun u s1 ⟨x, H1, I1, rx, d, o, kvs, ex, hd, hz, q⟩ => ?_)
  subst ex
  obtain rfl : u = Value.ref d := rx
  obtain ⟨hs0, hgd, hx, es, ep, vs, hdt, hsz, kv, hm2⟩ := I1.frzK hd
  have lk : kvs.length = vs.length := Paired.length kv
  have I2 : Inv X pins σ H1 { s1 with heap := s1.heap.push { cls := .type "dict_values", data := .fields #[.ref d] } } := I1.kept (t' := s1.toks) fun b ob q => Heap.get?_push_of_some _ q
  refine ⟨hm2.dictOf.typeIs, hm2.dictOf.mapOf.noDict, ?_⟩
  show wpAny _ _ (callWith cpos (.builtin "dict.values") [.ref d] [] []) _ X.xe s1
  refine method_meetsIn F.slot_dict_values F.entry_dict_values rfl (PySem.evalArgs_none ⟨rfl, hm2.dictOf.typeIs, F.args_dict_values_1 _, _, meets_dict_values (mixKind X.prog X.w) d hs0, ⟨vs, hm2.dictOf⟩, ?_⟩)
  refine Calls.spliced_nil ?_
  refine PySem.W.kdl_call (PySem.W.kdl_values (knd := mixKind X.prog X.w) (kvs := vs) (ep := ep)) (I1.ok.hd hc) ⟨⟨_, Heap.get?_push_size _ rfl, rfl, rfl⟩, hm2.push _⟩ (by rw [← lk]; exact hz) fun h' tk acc c hk hS hacc => ?_
  have ea : acc.toList = vs.map (·.2) := PySem.W.kdl_vals_eq acc.toList (by rw [Array.length_toList]; exact hacc.1) fun j v hj => hacc.2 j v (by rw [← Array.getElem?_toList]; exact hj)
  refine ⟨.ref _, _, I2.laid (t' := tk) (o := .lst (kvs.map (·.2))) hk (Nat.le_refl _) ⟨by rw [List.length_map]; exact hz, acc.toList, c, by rw [ea]; exact kv_vals kv, ?_⟩, rfl, q _ (I2.hok.fresh (Nat.le_refl _))⟩
  rw [Array.toArray_toList]
  exact hS
/-- list(d.values()), d's dict locked -/
def gListV : D → VRes
  | .dif ks xs => if ks.length ≤ sizeLine then .ok (.own (.lst xs)) else .bad
  | _ => .bad
theorem de_listVals {d : DEn} (hc : X.calm = true) (he : DE X W e d) (hg : Gl X "list") (hm : X.mg "list" = none) (hbase : attributeBase e "values" X.env (eval e X.env) = eval e X.env := by rfl) (hline : (apos.endLine == cpos.line) = true := by rfl)
    (hs : starEach [.Call (.Attribute e "values" apos) [] [] cpos] X.env = (false, eval (.Call (.Attribute e "values" apos) [] [] cpos) X.env) :: starEach [] X.env := by rfl) :
    DE X W (.Call (.Name "list" p) [.Call (.Attribute e "values" apos) [] [] cpos] [] pos) (dUn gListV d) :=
  PE.weak (pe_listVals hc he hg hm hbase hline hs) fun σ H Q ⟨Fo, A, ρ, S, p⟩ => ⟨Fo, A, ρ, S, post_bind p fun x dx A1 H1 ρ1 e1 S1 r1 p1 => by
    cases r1 <;> first
      | exact p1.elim
      | (rename_i a o kvs ks ds h n l
         subst n
         obtain ⟨hz, p2⟩ := ifB (P := fun z : VRes => Post X.K W Fo A1 σ (z.at ρ1) Q) p1 (fun z => z)
         exact ⟨a, o, kvs, rfl, S1.ex _ _ h, by rw [List.length_map] at hz; exact hz, fun q hq => Post.newL p2 S1 hq l⟩)⟩
end
end DL

set_option maxRecDepth 100000
set_option maxHeartbeats 2000000
/-! DL45: repr of a pair of whole numbers; defs that stand where no repr is under way. -/
namespace DL
open PySem PySem.Spec L2
open Evl (Ex)

/-! ### repr of a pair -/
def pairText (i j : Int) : Str := tupleText [Str.ofString (toString i), Str.ofString (toString j)]
def gRepr2 : List D → VRes
  | [.tup [.int i, .int j]] => if i.natAbs.log2 < 1920 ∧ j.natAbs.log2 < 1920 then .ok (.val (.str (pairText i j))) else .bad
  | _ => .bad
theorem gRepr2_two (x y : D) (l : List D) : gRepr2 (x :: y :: l) = .bad := by
  unfold gRepr2
  split
  · rename_i h; cases h
  · rfl
theorem gRepr2_tup {l : List D} (h : ∀ i j, l ≠ [.int i, .int j]) : gRepr2 [.tup l] = .bad := by
  unfold gRepr2
  split
  · rename_i e
    have e' := List.cons.inj e
    exact absurd (D.tup.inj e'.1) (h _ _)
  · rfl
theorem pair_fits {i j : Int} (hi : i.natAbs.log2 < 1920) (hj : j.natAbs.log2 < 1920) : (pairText i j).length ≤ sizeLine := by
  have h1 := PyProof.Rows.int_text_len_1921 hi
  have h2 := PyProof.Rows.int_text_len_1921 hj
  have h3 := fmt_text [Str.ofString (toString i), Str.ofString (toString j)]
  rw [piled_cons, piled_cons, piled_nil] at h3
  unfold pairText
  unfold sizeLine
  omega
section
variable {X : Cx} {W : WX}
theorem call_repr_pair (hg : X.A.guards = some []) (hu : X.A.units + 4 < cLine) : CallR X (.builtin "repr") (fun xs H Q => ∃ a i j, xs = [.ref a] ∧ SqT X.K H a [.int i, .int j] ∧ i.natAbs.log2 < 1920 ∧ j.natAbs.log2 < 1920 ∧ Q (.str (pairText i j)) H) := by
  intro pins s σ H xs us Q I r ⟨a, i, j, e, ht, hi, hj, q⟩
  subst e
  obtain ⟨u, rfl, rfl⟩ := vals1 r
  obtain ⟨its, rv, ⟨o, ho, hcl, n, hd⟩, _⟩ := I.tuple ht
  cases rv with
  | cons r1 r2 => cases r2 with
    | cons r2 r3 =>
      cases r3
      obtain ⟨t1, rfl⟩ := r1
      obtain ⟨t2, rfl⟩ := r2
      refine call_repr_slot (by omega) ⟨o, ho, hcl⟩ F.slot_tuple_repr ?_
      refine call_tuple_repr (g := []) ⟨o, ho, hcl⟩ hg (fun c hc => by cases hc) ho hd (.cons (ReprIs.int t1 hi) (.cons (ReprIs.int t2 hj) .nil)) (fun u tk => ?_) (pair_fits hi hj)
      exact ⟨_, _, rfl, .str _, H, I.tok _, ⟨_, rfl⟩, q⟩
theorem de_repr2 {e : Expr} {es : List Expr} {args : List Arg} {p pos : Pos} (hgd : X.A.guards = some []) (hu : X.A.units + 4 < cLine) (hg : Gl X "repr") (hm : X.mg "repr" = none) (ha : DA X W (e :: es) args) (he : starEach (e :: es) X.env = (false, eval e X.env) :: starEach es X.env := by rfl) (hpl : (backTo pos (starEach es X.env)).any (·.1) = false := by rfl) : DE X W (.Call (.Name "repr" p) (e :: es) [] pos) (dAll gRepr2 args) :=
  de_callB (call_repr_pair hgd hu) hg hm (by decide +kernel) ha (fun σ vs ds Fo A H ρ Q S ra p => by
    cases ra with
    | nil => exact p.elim
    | cons h r =>
      cases r with
      | cons _ _ => rw [gRepr2_two] at p; exact p.elim
      | nil =>
        cases h with
        | @tup a xs ds ht hl =>
          by_cases hd : ∃ i j, ds = [.int i, .int j]
          · obtain ⟨i, j, rfl⟩ := hd
            cases hl with
            | cons h1 hl => cases hl with
              | cons h2 hl =>
                cases hl
                cases h1
                cases h2
                obtain ⟨⟨hi, hj⟩, p2⟩ := ifB (P := fun z : VRes => Post X.K W Fo A σ (z.at ρ) Q) p (fun z => z)
                exact ⟨_, _, _, rfl, Evl.ex_t S.ex ht, hi, hj, Post.now p2 S (.str _)⟩
          · rw [gRepr2_tup fun i j e => hd ⟨i, j, e⟩] at p
            exact p.elim
        | _ => exact p.elim) (he := he) (hpl := hpl)
end
end DL

set_option maxRecDepth 100000
set_option maxHeartbeats 2000000
/-! DL46: defs that keep their promise where no repr is under way; a law's end for them. -/
namespace DL
open PySem PySem.Spec PyProof.Rows L2
open Evl (Ex)

/-- a call of f with n values does c, if no repr is under way -/
def CallsG (P : Program) (w : World) (K : PySem.W.Frag) (mg : Str → Option Value) (base : Heap) (k : Nat) (f : Addr) (n : Nat) (c : DEn) : Prop :=
  ∀ (A : Around) (outer : List Env) (s : Shared) (H : Hp) (us : List Value) (vs : List V) (Q : VK) (E : XK), A.guards = some [] → Room k A → Env0 P w K mg base A outer s H → Vals vs us → spD K n c vs H Q E →
    codeAny (model P w) A (.call (.ref f) ⟨us, []⟩) (CR (L2.CX P w) outer P w H s Q E) s
def FdG (P : Program) (w : World) (K : PySem.W.Frag) (mg : Str → Option Value) (base : Heap) (k : Nat) (f : Addr) (n : Nat) (c : DEn) : Prop :=
  CallsG P w K mg base k f n c ∧ PySem.W.keepIn K (.ref f) = true
theorem CallsG.mono {P : Program} {w : World} {K : PySem.W.Frag} {mg : Str → Option Value} {base : Heap} {j k : Nat} {f : Addr} {n : Nat} {c : DEn} (F : CallsG P w K mg base j f n c) (h : j ≤ k) : CallsG P w K mg base k f n c :=
  fun A o s H us vs Q E hg hr e v q => F A o s H us vs Q E hg (hr.mono h) e v q
theorem FdG.mono {P : Program} {w : World} {K : PySem.W.Frag} {mg : Str → Option Value} {base : Heap} {j k : Nat} {f : Addr} {n : Nat} {c : DEn} (F : FdG P w K mg base j f n c) (h : j ≤ k) : FdG P w K mg base k f n c := ⟨CallsG.mono F.1 h, F.2⟩
/-- THE RULE for such a def -/
theorem callsG_of {P : Program} {w : World} {K : PySem.W.Frag} {mg : Str → Option Value} {base : Heap} {x qual : Str} {params : Arguments} {body : List Stmt} {scope : Scope} {f : Addr} {fd : FuncData} {N ps : List Str} {k : Nat} {Pw : List Nat} {s : DSt} (F : FunD K x qual params body scope [] [] f fd) (S : FnScope N ps scope)
    (hb : ∀ (kV doc pm : Value) (an : Option Addr) (cdv ct : Value) (us : List Value), us.length = ps.length → bindArgs (PySem.W.fnOf x qual params body scope .none kV doc pm an cdv ct) ⟨us, []⟩ = pure (ps.zip us))
    (hbody : ∀ (cdv : Value) (A : Around) (outer : List Env) (s0 : Shared) (H : Hp) (E : XK), (A.deeper (PyProof.Rows.envOfC qual scope s0.heap.objs.size f cdv)).guards = some [] → Room k (A.deeper (PyProof.Rows.envOfC qual scope s0.heap.objs.size f cdv)) → DSs (cxOf (L2.CX P w) P w K mg base N qual scope f cdv A outer s0 H E) (fun cls d _ H => E cls d H) Pw body s) :
    CallsG P w K mg base (k + 1) f ps.length (callC N.length Pw s) := by
  intro A outer s0 H us vs Q E hg hr e0 rv h
  have bN := F.bindsN hb
  obtain ⟨oc, od, dV, kV, doc, pm, an, cdv, ct, osl, rfl, lk, hcd, _, _⟩ := F.ex
  have KX : K.In s0.heap := e0.mod.kin.keeps fun b o e => (e0.bs b o e).1
  have hl : vs.length = ps.length := h.1
  refine LamX.run_ofS lk hcd S hr e0 (us := us) (by have := bN s0 us KX (by rw [List.append_nil, ← rv.length]; exact hl); rwa [List.append_nil] at this) rv hl fun hr' => ⟨rdS K (fun cls d _ H => E cls d H) Pw s, hbody cdv A outer s0 H E hg hr', ?_⟩
  obtain ⟨_, Fo, A', rs, S, p⟩ := h
  refine ⟨Fo, A', _, S.atStart, ?_⟩
  obtain ⟨ow, p⟩ := ifB (P := fun z : ERes => Post K (fun cls d _ H => E cls d H) Fo A' (vs.map some) z Q) p (fun z => z)
  cases hr : s (rs ++ List.replicate (N.length - rs.length) none) with
  | nx ρ' => rw [hr] at p; exact fun σ' A2 H' kp e S' => p .non A2 H' e (S.atEnd ow e kp S') (.val .non)
  | rt r ρ' => rw [hr] at p; exact fun v σ' A2 H' kp e S' rv => p v A2 H' e (S.atEnd ow e kp S') (RepR.atEnd S ow kp rv)
  | exc x ρ' => rw [hr] at p; exact fun cls dct σ' A2 H' kp e S' rx => p cls dct A2 H' e (S.atEnd ow e kp S') rx
  | bk ρ' => rw [hr] at p; exact p.elim
  | ct ρ' => rw [hr] at p; exact p.elim
  | bad => rw [hr] at p; exact p.elim
theorem FdG.of {P : Program} {w : World} {K : PySem.W.Frag} {mg : Str → Option Value} {base : Heap} {x qual : Str} {params : Arguments} {body : List Stmt} {scope : Scope} {f : Addr} {fd : FuncData} {N ps : List Str} {k : Nat} {Pw : List Nat} {s : DSt} (F : FunD K x qual params body scope [] [] f fd) (S : FnScope N ps scope)
    (hb : ∀ (kV doc pm : Value) (an : Option Addr) (cdv ct : Value) (us : List Value), us.length = ps.length → bindArgs (PySem.W.fnOf x qual params body scope .none kV doc pm an cdv ct) ⟨us, []⟩ = pure (ps.zip us))
    (hbody : ∀ (cdv : Value) (A : Around) (outer : List Env) (s0 : Shared) (H : Hp) (E : XK), (A.deeper (PyProof.Rows.envOfC qual scope s0.heap.objs.size f cdv)).guards = some [] → Room k (A.deeper (PyProof.Rows.envOfC qual scope s0.heap.objs.size f cdv)) → DSs (cxOf (L2.CX P w) P w K mg base N qual scope f cdv A outer s0 H E) (fun cls d _ H => E cls d H) Pw body s) :
    FdG P w K mg base (k + 1) f ps.length (callC N.length Pw s) := ⟨callsG_of F S hb hbody, F.kp⟩
section
variable {X : Cx} {W : WX} {x : Str} {p pos : Pos} {e : Expr} {es : List Expr} {args : List Arg} {k n : Nat} {f : Addr} {c : DEn}
/-- f(e, ..) -/
theorem de_callG (F : FdG X.prog X.w X.K X.mg X.base k f n c) (hgd : X.A.guards = some []) (hr : Room k X.A) (hg : Gl X x) (hm : X.mg x = some (.ref f)) (tk : Takes X W) (ha : DA X W (e :: es) args) (hn : args.length = n)
    (hdb : (x == ("__debug__" : Str)) = false := by decide) (he : starEach (e :: es) X.env = (false, eval e X.env) :: starEach es X.env := by rfl) (hpl : (backTo pos (starEach es X.env)).any (·.1) = false := by rfl) :
    DE X W (.Call (.Name x p) (e :: es) [] pos) (dCall c args) := by
  refine ⟨fun pins s σ H Q I h => ?_⟩
  refine wpAny_Call_Name_kw (ld_glob I hg hm ?_ hdb)
  refine PySem.W.callWith_K (h₀ := X.base) I.ok.mod.kin F.2 (thn (ha.run pos pins s σ H _ I (rdA_call hn h)) fun us s1 ⟨vs, H1, I1, r, q⟩ => ⟨I1.kIn, ?_⟩) he hpl
  refine wpAny_call (codeAny_mono (F.1 _ _ _ _ _ _ _ _ hgd hr I1.env0 r q) fun r s' hq => ?_)
  cases r with
  | error e => exact passAt tk σ pins H1 s1 e s' I1 hq
  | ok fl =>
    cases fl with
    | ret u => exact I1.after hq
    | next => exact False.elim hq
    | brk => exact False.elim hq
    | cont => exact False.elim hq
end

/-! ### the end -/
/-- what is told of the heap: the script's list alone, and that only if the program has it not -/
def scriptH (K : PySem.W.Frag) (a : Addr) (o : Obj) (ns : List Int) : Hp := fun b => if b = a ∧ K.lookup a = none then some (.frz o (.lst (ns.map V.int))) else none
theorem scriptH_some {K : PySem.W.Frag} {a b : Addr} {o : Obj} {ns : List Int} {u : HO} (h : scriptH K a o ns b = some u) : b = a ∧ K.lookup a = none ∧ u = .frz o (.lst (ns.map V.int)) := by
  unfold scriptH at h
  split at h
  · rename_i q
    exact ⟨q.1, q.2, (Option.some.inj h).symm⟩
  · cases h
theorem scriptH_none {K : PySem.W.Frag} {a b : Addr} {o : Obj} {ns : List Int} (h : b ≠ a ∨ K.lookup a ≠ none) : scriptH K a o ns b = none := by
  cases q : scriptH K a o ns b with
  | none => rfl
  | some u =>
    obtain ⟨h1, h2, _⟩ := scriptH_some q
    rcases h with h | h
    · exact absurd h1 h
    · exact absurd h2 h
theorem endG {P : Program} {w : World} {K : PySem.W.Frag} {mg mb : Str → Option Value} {n k : Nat} {fa a : Addr} {c : DEn} {s : Shared} {vs : List Value} {ns : List Int}
    (KX : K.In s.heap) (hns : s.heap.Ns mainGlobals mg) (hb : s.heap.Ns builtinsNs mb) (hbb : ∀ x : Str, x ≠ "__name__" → mb x = bootBuiltins x) (hlim : s.heap.NoLimit) (hg : s.gens = #[])
    (ha : s.heap.get? a = some { cls := .type "list", data := .seq vs.toArray }) (hi : IntsAre vs ns) (hl : ns.length ≤ n) (hn : n ≤ sizeLine) (hbits : ∀ z ∈ ns, Builtin.Int.intBits z ≤ 1048576) (hr : Room k callerA)
    (F : ∀ base : Heap, CallsG P w K mg base k fa 1 c) (p : Plain n c) :
    codeAny (model P w) callerA (.call (.ref fa) ⟨[.ref a], []⟩) (fun r s' => r = .ok (.ret (.bool true)) ∧ OldK s.heap s'.heap ∧ s'.os = s.os ∧ AllBare s'.gens) s := by
  have rv := vals_ints hi
  have hl2 : (ns.map V.int).length ≤ sizeLine := by rw [List.length_map]; omega
  let o : Obj := { cls := .type "list", data := .seq vs.toArray }
  let H : Hp := scriptH K a o ns
  have keep : ∀ {b : Addr} {o' : Obj}, s.heap.get? b = some o' → (b ≠ a ∨ K.lookup a ≠ none) → (hidT s.heap H).get? b = some o' := fun e h => hidT_get e (scriptH_none h)
  have keepNs : ∀ {b : Addr} {m : Str → Option Value}, s.heap.Ns b m → (hidT s.heap H).Ns b m := fun {b m} ⟨o', es, ep, e, d, r⟩ =>
    ⟨o', es, ep, keep e (.inl fun z => by
      subst z
      rw [ha] at e
      cases e
      have d' : Data.seq vs.toArray _ = Data.dict es ep := d
      cases d'), d, r⟩
  have kin : K.In (hidT s.heap H) := fun b o' e => keep (KX b o' e) (by
    by_cases z : b = a
    · subst z
      exact .inr (by rw [e]; nofun)
    · exact .inl z)
  have seq : SqL K H a (ns.map V.int) := by
    cases q : K.lookup a with
    | none => exact .inl (.inr ⟨o, if_pos ⟨rfl, q⟩⟩)
    | some o' =>
      have e := KX a o' q
      rw [ha] at e
      cases e
      exact .inr ⟨_, vs.toArray, _, q, rfl, rfl, rfl, by rw [List.size_toArray, hi.length]; omega, by simpa using rv⟩
  have hok : HOk P w H s.heap := fun b u z => by
    obtain ⟨rfl, _, rfl⟩ := scriptH_some z
    exact ⟨ha, hl2, vs, _, rv, ha⟩
  have e0 : Env0 P w K mg (hidT s.heap H) callerA [] s H :=
    ⟨rfl, ⟨kin, keepNs hns, ⟨mb, keepNs hb, hbb⟩, let ⟨mc, h1, h2⟩ := hlim; ⟨mc, keepNs h1, h2⟩⟩, fun b o' e => of_hidT e, Nat.le_of_eq (hidT_size _ _), trivial, fun b hb => absurd hb (List.not_mem_nil), hok, .of_eq hg⟩
  refine codeAny_mono (F _ _ _ _ _ [.ref a] [.ref a] _ _ rfl hr e0 (.cons rfl .nil) (sp_law p hl hbits seq)) fun r s' h => ?_
  cases r with
  | error e =>
    obtain ⟨_, _, _, _, _, _, _, _, _, _, _, _, h⟩ := h
    exact h.elim
  | ok fl =>
    cases fl with
    | next => exact False.elim h
    | brk => exact False.elim h
    | cont => exact False.elim h
    | ret u =>
      obtain ⟨v, H', os, bare, un, hok', rel, q⟩ := h
      obtain rfl : v = .bl true := q
      obtain rfl : u = Value.bool true := rel
      refine ⟨rfl, OldK.of_keep fun b o' e => ?_, os, bare⟩
      cases q : H b with
      | none => exact un.keep b o' e q (fun z => absurd z List.not_mem_nil) (by simp)
      | some u =>
        obtain ⟨_, _, rfl⟩ := scriptH_some q
        obtain ⟨e1, _⟩ := hok b _ q
        obtain ⟨e2, _⟩ := hok' b _ (un.frzs b o _ q)
        rw [e] at e1
        cases e1
        exact e2
/-- a law's def of this kind -/
def LawG (P : Program) (w : World) (K : PySem.W.Frag) (mg : Str → Option Value) (k : Nat) (f : Addr) (c : DEn) : Prop := ∀ base : Heap, CallsG P w K mg base k f 1 c
theorem walk_DG {l : PySem.W.OpenLaw} {n k : Nat} {q : Program} {loose : List Str} {XP : (Str → Option Value) → Heap → Prop} {YP : World → Heap → Prop} {d : PySem.DefRec} {c : DEn}
    (hn : l.most = some n) (hn2 : n ≤ sizeLine) (hdf : d.params.defaults = []) (hr : Room k callerA)
    (F : ∀ (w : World) (mg : Str → Option Value) (fa : Addr) (h : Heap), YP w h → h.Ns mainGlobals mg → mg d.name = some (.ref fa) → ∃ K : PySem.W.Frag, K.In h ∧ LawG l.prog w K mg k fa c) (p : Plain n c) :
    PySem.W.WalkO q loose XP YP l.row.toRowW d [] (fun f vs => PySem.call f vs) := by
  refine Att.attach_callB hn hdf fun w s₀ s₁ mg mb fa o pm cd doc a vs ns G Y ho hd hcd hmg hobj hints hlen hbits hg => ?_
  obtain ⟨K, KX, hF⟩ := F w mg fa _ Y G.T.g hmg
  exact endG KX G.T.g G.T.b G.T.builtins G.T.nolimit hg hobj hints hlen hn2 hbits hr hF p
end DL
namespace DL
open PySem PySem.Spec L2
theorem room4 {k : Nat} {A : Around} (h : Room k A) : A.units + 4 < cLine := by have := h.un; omega
end DL

set_option maxRecDepth 100000
set_option maxHeartbeats 2000000
/-! DL47: a text's signs from behind (s[::-1]). -/
namespace DL
open PySem PySem.Spec PyProof.Rows L2
open Evl (Ex)
def revS (z : Str) : Str := ⟨z.cps.toList.reverse.toArray⟩
theorem rev_len (z : Str) : (revS z).length = z.length := by simp [revS, Str.length]
theorem picked_revS (z : Str) : ((PySem.Builtin.Str.strSliceIndices none none (-1) z.length).filterMap (z.cps[·]?)).toArray = (revS z).cps := by
  rw [picked_rev, PySem.W.krv_range, List.filterMap_reverse]
  have e : z.length = z.cps.size := rfl
  rw [e, PySem.W.krv_all]
  rfl
def tRevS (te : TE) : TE := fun σ H Q => te σ H fun x H1 => ∃ z, x = .str z ∧ z.length ≤ sizeLine ∧ Q (.str (revS z)) H1
section
variable {X : Cx} {W : WX}
theorem pe_revS {e : Expr} {te : TE} {k : Nat} {p1 p2 p3 pos : Pos} (he : PE X e te) : PE X (.Subscript e (.Slice none none (some (.UnaryOp .USub (.Constant (.int 1) k p1) p2)) p3) pos) (tRevS te) := by
  refine ⟨fun pins s σ H Q I h => ?_⟩
  refine Subscript_ (thn (he.run pins s σ H _ I h) fun v s1 ⟨x, H1, I1, r1, q1⟩ => ?_)
  obtain ⟨z, ex, hz, q⟩ := q1
  subst ex
  obtain ⟨t, rfl⟩ := r1
  have hst : PO X (some (.UnaryOp .USub (.Constant (.int 1) k p1) p2)) (tPart (tUn (rU fun i => .int (-i)) (tC (.int 1)))) := po_some (pe_un un_neg pe_int)
  refine wpAny_Slice (thn (po_none.run pins s1 σ H1 (fun o H2 => o = none ∧ H2 = H1) I1 ⟨rfl, rfl⟩) fun vl s2 ⟨l, H2, I2, pl, el, e2⟩ => ?_)
  subst el e2
  refine thn (po_none.run pins s2 σ H2 (fun o H3 => o = none ∧ H3 = H2) I2 ⟨rfl, rfl⟩) fun vu s3 ⟨u, H3, I3, pu, eu, e3⟩ => ?_
  subst eu e3
  refine thn (hst.run pins s3 σ H3 (fun o H4 => o = some (-1) ∧ H4 = H3) I3 ⟨1, rfl, -1, rfl, rfl, rfl⟩) fun vs s4 ⟨o, H4, I4, ps, eo, e4⟩ => ?_
  subst eo e4
  have I5 : Inv X pins σ H4 { s4 with heap := s4.heap.push { cls := .type "slice", data := .fields #[vl, vu, vs] } } := I4.kept (t' := s4.toks) fun b ob q => Heap.get?_push_of_some _ q
  obtain ⟨l, el, hl⟩ := IsPart.raw pl
  obtain ⟨u, eu, hu⟩ := IsPart.raw pu
  obtain ⟨st, es, hs⟩ := IsPart.raw ps
  subst el eu es
  cases l with
  | some l => cases hl
  | none =>
    cases u with
    | some u => cases hu
    | none =>
      cases st with
      | none => cases hs
      | some st =>
        obtain ⟨i, ti⟩ := st
        obtain rfl : i = -1 := Option.some.inj hs
        show wpAny (model X.prog X.w) X.A (subscriptTail e (.Slice none none (some (.UnaryOp .USub (.Constant (.int 1) k p1) p2)) p3) (.str z t) (.ref s4.heap.objs.size)) (EP X pins σ Q) X.xe _
        refine tail_any (ops := [.str z t, .ref s4.heap.objs.size]) (typeIs_str _ _ _) (F.slot_str_getitem.lookup) ?_ (by with_unfolding_all rfl)
        refine wpAny_getItem_str_slice (l := none) (u := none) (st := some (-1, ti)) ⟨_, Heap.get?_push_size _ rfl, rfl, rfl⟩ rfl ?_
        show Made.post (Made.str ⟨((PySem.Builtin.Str.strSliceIndices none none (-1) z.length).filterMap (z.cps[·]?)).toArray⟩) (EP X pins σ Q) _
        have e : (⟨((PySem.Builtin.Str.strSliceIndices none none (-1) z.length).filterMap (z.cps[·]?)).toArray⟩ : Str) = revS z := by rw [picked_revS]
        rw [e]
        exact ⟨by rw [rev_len]; exact hz, .str _, H4, I5.tok _, ⟨_, rfl⟩, q⟩
def dRevS (da : DEn) : DEn := dUn (fun x => match x with
  | .str z => if z.length ≤ sizeLine then .ok (.val (.str (revS z))) else .bad
  | _ => .bad) da
theorem de_revS {e : Expr} {d : DEn} {k : Nat} {p1 p2 p3 pos : Pos} (he : DE X W e d) : DE X W (.Subscript e (.Slice none none (some (.UnaryOp .USub (.Constant (.int 1) k p1) p2)) p3) pos) (dRevS d) := by
  refine PE.weak (pe_revS he) fun σ H Q ⟨Fo, A, ρ, S, p⟩ => ⟨Fo, A, ρ, S, post_bind p fun x dx A1 H1 ρ1 e1 S1 r1 p1 => ?_⟩
  cases r1 <;> first
    | exact p1.elim
    | (obtain ⟨hz, p2⟩ := ifB (P := fun z : VRes => Post X.K W Fo A1 σ (z.at ρ1) Q) p1 (fun z => z)
       exact ⟨_, rfl, hz, Post.now p2 S1 (.str _)⟩)
end
end DL

set_option maxRecDepth 100000
set_option maxHeartbeats 2000000
/-! DL48: a text in a text. -/
namespace DL
open PySem PySem.Spec PySem.Calls PyProof.Rows L2
open Evl (Ex)
def hasT (z t : Str) : Bool := !(PySem.Builtin.Str.occurrences z t 0 z.length 1).isEmpty
def gInT (x y : D) : VRes := match x, y with
  | .str t, .str z => .ok (.val (.bl (hasT z t)))
  | _, _ => .bad
def gNotInT (x y : D) : VRes := match x, y with
  | .str t, .str z => .ok (.val (.bl (!hasT z t)))
  | _, _ => .bad
section
variable {X : Cx} {W : WX}
theorem o_inT : OpD X W (compareOp .In) gInT := fun pins s σ H Fo A ρ x y v u dx dy Q I r1 r2 S q1 q2 p => by
  cases q1 <;> first
    | exact p.elim
    | (cases q2 <;> first
        | exact p.elim
        | (obtain ⟨t1, rfl⟩ := r1
           obtain ⟨t2, rfl⟩ := r2
           exact in_str ⟨.bl _, H, I, rfl, Post.now p S (.bl _)⟩))
theorem o_notInT : OpD X W (compareOp .NotIn) gNotInT := fun pins s σ H Fo A ρ x y v u dx dy Q I r1 r2 S q1 q2 p => by
  cases q1 <;> first
    | exact p.elim
    | (cases q2 <;> first
        | exact p.elim
        | (obtain ⟨t1, rfl⟩ := r1
           obtain ⟨t2, rfl⟩ := r2
           exact notIn_str ⟨.bl _, H, I, rfl, Post.now p S (.bl _)⟩))
end
end DL

set_option maxRecDepth 100000
set_option maxHeartbeats 4000000
namespace G
open PySem PySem.Spec L2 DL
open He (ga ma)
abbrev topS (i : Nat) : Stmt := PySem.Challenge.pw_twocolourflips_k40_numbers_of_rows.main.body.getD i (.Pass ⟨0, 0, 0, 0⟩)
def kitTab : List ((Tn × Tn) × Bool) := [((.ty "int", .ty "int"), true), ((.ty "bool", .ty "int"), true), ((.ty "int", .ty "bool"), false), ((.ty "bool", .ty "bool"), true), ((.ty "str", .ty "str"), true), ((.ty "list", .ty "list"), true)]
def fa : List Fx := [.glo "law",
  .free "len",
  .free "min",
  .free "max",
  .free "range",
  .free "int",
  .glo "_law_stream",
  .glo "_law_draw",
  .glo "_law_places",
  .glo "_law_words",
  .glo "_law_is_done",
  .glo "_law_turn",
  .glo "_law_costs",
  .free "list",
  .int "MAX_LENGTH_numbers" 3000,
  .free "isinstance",
  .free "bool",
  .glo "is_number",
  .exc "InvalidNumber" [.type "ValueError", .type "Exception", .type "BaseException", .type "object"] "ValueError.__new__",
  .glo "InvalidNumber",
  .glo "check_length",
  .glo "is_count",
  .glo "check_count",
  .glo "choices",
  .glo "divisions",
  .glo "count_rows",
  .glo "_law_runs",
  .free "str",
  .lst "GAMES" ["front", "ends", "parts"],
  .exc "InvalidGame" [.type "ValueError", .type "Exception", .type "BaseException", .type "object"] "ValueError.__new__",
  .glo "InvalidGame",
  .glo "check_game",
  .lst "GOALS" ["grouped", "sorted"],
  .exc "InvalidGoal" [.type "ValueError", .type "Exception", .type "BaseException", .type "object"] "ValueError.__new__",
  .glo "InvalidGoal",
  .glo "check_goal",
  .glo "check_words",
  .glo "kinds_of_length",
  .glo "sorting_cost",
  .glo "plain_cost",
  .free "sum",
  .glo "count_rows_with_cost",
  .glo "total_cost",
  .glo "mean_cost",
  .free "repr",
  .glo "_law_mean",
  .int "MAX_WORST" 2000,
  .glo "worst_kind",
  .glo "is_colour",
  .int "MAX_RUNS" 2000,
  .exc "InvalidRow" [.type "ValueError", .type "Exception", .type "BaseException", .type "object"] "ValueError.__new__",
  .glo "InvalidRow",
  .int "MAX_LENGTH_rows" 1000000000000000000000000000000,
  .free "all",
  .cls "Row",
  .noat "Row" "colour",
  .noat "Row" "sizes",
  .mkr "Row",
  .glo "Row",
  .glo "worst_row",
  .prop "Row" "length",
  .int "MAX_ITEMS" 2000,
  .prop "Row" "first",
  .prop "Row" "lengths",
  .glo "text_of",
  .glo "greatest_cost",
  .glo "count_mixed_rows",
  .glo "_law_mixed_right",
  .glo "_law_right",
  .kit (.ty "int") (.ty "int") true,
  .kit (.ty "bool") (.ty "int") true,
  .kit (.ty "int") (.ty "bool") false,
  .kit (.ty "bool") (.ty "bool") true,
  .kit (.ty "str") (.ty "str") true,
  .kit (.ty "list") (.ty "list") true]
def fn : List Dx := [⟨.glo "_law_stream", "_law_stream", "_law_stream", defArgs (topS 46), defBody (topS 46), defScope (topS 46)⟩,
  ⟨.glo "_law_draw", "_law_draw", "_law_draw", defArgs (topS 47), defBody (topS 47), defScope (topS 47)⟩,
  ⟨.glo "_law_places", "_law_places", "_law_places", defArgs (topS 50), defBody (topS 50), defScope (topS 50)⟩,
  ⟨.glo "_law_words", "_law_words", "_law_words", defArgs (topS 52), defBody (topS 52), defScope (topS 52)⟩,
  ⟨.glo "_law_is_done", "_law_is_done", "_law_is_done", defArgs (topS 51), defBody (topS 51), defScope (topS 51)⟩,
  ⟨.glo "_law_turn", "_law_turn", "_law_turn", defArgs (topS 49), defBody (topS 49), defScope (topS 49)⟩,
  ⟨.glo "_law_costs", "_law_costs", "_law_costs", defArgs (topS 53), defBody (topS 53), defScope (topS 53)⟩,
  ⟨.glo "is_number", "is_number", "is_number", defArgs (topS 10), defBody (topS 10), defScope (topS 10)⟩,
  ⟨.glo "check_length", "check_length", "check_length", defArgs (topS 33), defBody (topS 33), defScope (topS 33)⟩,
  ⟨.glo "is_count", "is_count", "is_count", defArgs (topS 11), defBody (topS 11), defScope (topS 11)⟩,
  ⟨.glo "check_count", "check_count", "check_count", defArgs (topS 20), defBody (topS 20), defScope (topS 20)⟩,
  ⟨.glo "choices", "choices", "choices", defArgs (topS 34), defBody (topS 34), defScope (topS 34)⟩,
  ⟨.glo "divisions", "divisions", "divisions", defArgs (topS 35), defBody (topS 35), defScope (topS 35)⟩,
  ⟨.glo "count_rows", "count_rows", "count_rows", defArgs (topS 37), defBody (topS 37), defScope (topS 37)⟩,
  ⟨.glo "_law_runs", "_law_runs", "_law_runs", defArgs (topS 54), defBody (topS 54), defScope (topS 54)⟩,
  ⟨.glo "check_game", "check_game", "check_game", defArgs (topS 23), defBody (topS 23), defScope (topS 23)⟩,
  ⟨.glo "check_goal", "check_goal", "check_goal", defArgs (topS 26), defBody (topS 26), defScope (topS 26)⟩,
  ⟨.glo "check_words", "check_words", "check_words", defArgs (topS 27), defBody (topS 27), defScope (topS 27)⟩,
  ⟨.glo "kinds_of_length", "kinds_of_length", "kinds_of_length", defArgs (topS 36), defBody (topS 36), defScope (topS 36)⟩,
  ⟨.glo "sorting_cost", "sorting_cost", "sorting_cost", defArgs (topS 28), defBody (topS 28), defScope (topS 28)⟩,
  ⟨.glo "plain_cost", "plain_cost", "plain_cost", defArgs (topS 29), defBody (topS 29), defScope (topS 29)⟩,
  ⟨.glo "count_rows_with_cost", "count_rows_with_cost", "count_rows_with_cost", defArgs (topS 38), defBody (topS 38), defScope (topS 38)⟩,
  ⟨.glo "total_cost", "total_cost", "total_cost", defArgs (topS 43), defBody (topS 43), defScope (topS 43)⟩,
  ⟨.glo "mean_cost", "mean_cost", "mean_cost", defArgs (topS 44), defBody (topS 44), defScope (topS 44)⟩,
  ⟨.glo "_law_mean", "_law_mean", "_law_mean", defArgs (topS 55), defBody (topS 55), defScope (topS 55)⟩,
  ⟨.glo "worst_kind", "worst_kind", "worst_kind", defArgs (topS 40), defBody (topS 40), defScope (topS 40)⟩,
  ⟨.glo "is_colour", "is_colour", "is_colour", defArgs (topS 12), defBody (topS 12), defScope (topS 12)⟩,
  ⟨.met "Row" "__init__", "__init__", "Row.__init__", defArgs (inCls (topS 18) 0), defBody (inCls (topS 18) 0), defScope (inCls (topS 18) 0)⟩,
  ⟨.glo "worst_row", "worst_row", "worst_row", defArgs (topS 42), defBody (topS 42), defScope (topS 42)⟩,
  ⟨.prop "Row" "length", "length", "Row.length", defArgs (inCls (topS 18) 5), defBody (inCls (topS 18) 5), defScope (inCls (topS 18) 5)⟩,
  ⟨.prop "Row" "first", "first", "Row.first", defArgs (inCls (topS 18) 1), defBody (inCls (topS 18) 1), defScope (inCls (topS 18) 1)⟩,
  ⟨.prop "Row" "lengths", "lengths", "Row.lengths", defArgs (inCls (topS 18) 3), defBody (inCls (topS 18) 3), defScope (inCls (topS 18) 3)⟩,
  ⟨.glo "text_of", "text_of", "text_of", defArgs (topS 19), defBody (topS 19), defScope (topS 19)⟩,
  ⟨.glo "greatest_cost", "greatest_cost", "greatest_cost", defArgs (topS 41), defBody (topS 41), defScope (topS 41)⟩,
  ⟨.glo "count_mixed_rows", "count_mixed_rows", "count_mixed_rows", defArgs (topS 39), defBody (topS 39), defScope (topS 39)⟩,
  ⟨.glo "_law_mixed_right", "_law_mixed_right", "_law_mixed_right", defArgs (topS 56), defBody (topS 56), defScope (topS 56)⟩,
  ⟨.glo "_law_right", "_law_right", "_law_right", defArgs (topS 57), defBody (topS 57), defScope (topS 57)⟩,
  ⟨.glo "law", "law", "law", defArgs (topS 58), defBody (topS 58), defScope (topS 58)⟩]
noncomputable section
variable {P : Program} {w : World} {K : PySem.W.Frag} {mg : Str → Option Value} {base : Heap}
theorem kc_0 (T : TT fa fn K mg) : ∀ C, (Tn.ty "int") = Tn.cls C → ClsI K (He.ga K (Str.ofString C)) := fun C h => by cases h
theorem kc_1 (T : TT fa fn K mg) : ∀ C, (Tn.ty "bool") = Tn.cls C → ClsI K (He.ga K (Str.ofString C)) := fun C h => by cases h
theorem kc_2 (T : TT fa fn K mg) : ∀ C, (Tn.ty "int") = Tn.cls C → ClsI K (He.ga K (Str.ofString C)) := fun C h => by cases h
theorem kc_3 (T : TT fa fn K mg) : ∀ C, (Tn.ty "bool") = Tn.cls C → ClsI K (He.ga K (Str.ofString C)) := fun C h => by cases h
theorem kc_4 (T : TT fa fn K mg) : ∀ C, (Tn.ty "str") = Tn.cls C → ClsI K (He.ga K (Str.ofString C)) := fun C h => by cases h
theorem kc_5 (T : TT fa fn K mg) : ∀ C, (Tn.ty "list") = Tn.cls C → ClsI K (He.ga K (Str.ofString C)) := fun C h => by cases h
@[simp] theorem kt_0 : kitTab.lookup ((Tn.ty "int"), (Tn.ty "int")) = some true := by decide +kernel
@[simp] theorem kt_1 : kitTab.lookup ((Tn.ty "bool"), (Tn.ty "int")) = some true := by decide +kernel
@[simp] theorem kt_2 : kitTab.lookup ((Tn.ty "int"), (Tn.ty "bool")) = some false := by decide +kernel
@[simp] theorem kt_3 : kitTab.lookup ((Tn.ty "bool"), (Tn.ty "bool")) = some true := by decide +kernel
@[simp] theorem kt_4 : kitTab.lookup ((Tn.ty "str"), (Tn.ty "str")) = some true := by decide +kernel
@[simp] theorem kt_5 : kitTab.lookup ((Tn.ty "list"), (Tn.ty "list")) = some true := by decide +kernel
theorem kitOk (T : TT fa fn K mg) : KitOk K kitTab := ⟨List.forall_mem_cons.mpr ⟨f_kit (T.fact 69), List.forall_mem_cons.mpr ⟨f_kit (T.fact 70), List.forall_mem_cons.mpr ⟨f_kit (T.fact 71), List.forall_mem_cons.mpr ⟨f_kit (T.fact 72), List.forall_mem_cons.mpr ⟨f_kit (T.fact 73), List.forall_mem_cons.mpr ⟨f_kit (T.fact 74), fun _ h => absurd h (by simp)⟩⟩⟩⟩⟩⟩, List.forall_mem_cons.mpr ⟨kc_0 T, List.forall_mem_cons.mpr ⟨kc_1 T, List.forall_mem_cons.mpr ⟨kc_2 T, List.forall_mem_cons.mpr ⟨kc_3 T, List.forall_mem_cons.mpr ⟨kc_4 T, List.forall_mem_cons.mpr ⟨kc_5 T, fun _ h => absurd h (by simp)⟩⟩⟩⟩⟩⟩⟩
/-! #### _law_stream -/
def b_l_stream : DSt := (sSeq (sSet 2 (dC (.int 0))) (sSeq (sIf (dBin gLt (dVar 1) (dAll gLen [.e (dVar 0)])) (sSet 2 (dBin gIx (dVar 0) (dVar 1))) sNil) (sSeq (sSet 3 (dAll gMax2 [.e (dVar 2), .e (dBin gSub (dUn gNeg (dC (.int 1))) (dVar 2))])) (sSeq (sSet 4 (dBin gMod (dBin gMul (dBin gAdd (dBin gAdd (dBin gAdd (dBin gMod (dVar 3) (dC (.int 2147483629))) (dBin gMul (dBin gMul (dC (.int 7919)) (dVar 1)) (dVar 1))) (dBin gMul (dC (.int 31)) (dVar 1))) (dC (.int 17))) (dC (.int 48271))) (dC (.int 2147483647)))) (sRet (dAll DL.gLst [.e (dBin gMul (dVar 3) (dAll gInt [.e (dBin gGe (dVar 3) (dBin gPow (dC (.int 10)) (dC (.int 18))))])), .e (dVar 4)]))))))
def c_l_stream : DEn := callC 5 [] b_l_stream
theorem sc_l_stream : FnScope ["_law_script", "_law_k", "_law_cell", "_law_size", "_law_mixed"] ["_law_script", "_law_k"] (defScope (topS 46)) := ⟨rfl, rfl, rfl, by decide +kernel, rfl, by decide +kernel, by decide +kernel⟩
theorem fd_l_stream (T : TT fa fn K mg) : FdOk P w K mg base 1 (cad K "_law_stream") 2 c_l_stream := by
  obtain ⟨fd, F⟩ := T.def_ 0
  refine FdOk.of (N := ["_law_script", "_law_k", "_law_cell", "_law_size", "_law_mixed"]) (ps := ["_law_script", "_law_k"]) (k := 0) (Pw := []) (s := b_l_stream) F sc_l_stream (fun _ _ _ _ _ _ us hl => match us, hl with | [_, _], _ => rfl) (fun cdv A outer s0 H E hr => ?_)
  have hN := sc_l_stream.nd
  have tk := takes_of (X := cxOf (L2.CX P w) P w K mg base ["_law_script", "_law_k", "_law_cell", "_law_size", "_law_mixed"] "_law_stream" (defScope (topS 46)) (cad K "_law_stream") cdv A outer s0 H E) (E := E) rfl rfl rfl rfl
  exact (dss_cons (ds_set hN rfl (.inl rfl) (by decide) de_int) (dss_cons (ds_if (dt_cmp o_lt (de_var (pv 1)) (de_len rfl (T.free 1) (da_cons (de_var (pv 0)) da_nil)) (by rfl)) (dss_one (ds_set hN rfl (.inl rfl) (by decide) (de_ix i_ix (de_var (pv 0)) (de_var (pv 1)) (fun _ _ => rfl)))) dss_nil) (dss_cons (ds_set hN rfl (.inl rfl) (by decide) (de_max2 rfl rfl (T.free 3) (da_cons (de_var (pv 2)) (da_cons (de_bin o_sub (de_un u_neg de_int) (de_var (pv 2))) da_nil)))) (dss_cons (ds_set hN rfl (.inl rfl) (by decide) (de_bin o_mod (de_bin o_mul' (de_bin o_add' (de_bin o_add' (de_bin o_add' (de_bin o_mod (de_var (pv 3)) de_int) (de_bin o_mul' (de_bin o_mul' de_int (de_var (pv 1))) (de_var (pv 1)))) (de_bin o_mul' de_int (de_var (pv 1)))) de_int) de_int) de_int)) (dss_one (ds_ret (de_lst (da_cons (de_bin o_mul' (de_var (pv 3)) (de_int1 rfl (T.free 5) (da_cons (de_cmp o_ge (de_var (pv 3)) (de_bin o_pow de_int de_int) (by rfl)) da_nil))) (da_cons (de_var (pv 4)) da_nil)))))))))
/-! #### _law_draw -/
def b_l_draw : DSt := (sSeq (sIf (dBin gGt (dIxO 0 (dC (.int 0))) (dC (.int 0))) (sSeq (sSet 2 (dBin gMod (dIxO 0 (dC (.int 0))) (dVar 1))) (sSeq (sSetIx 0 (dC (.int 0)) (dBin gFdiv (dIxO 0 (dC (.int 0))) (dVar 1))) (sRet (dVar 2)))) sNil) (sSeq (sSetIx 0 (dC (.int 1)) (dBin gMod (dBin gAdd (dBin gMul (dIxO 0 (dC (.int 1))) (dC (.int 69621))) (dC (.int 7))) (dC (.int 2147483647)))) (sRet (dBin gMod (dBin gFdiv (dBin gMod (dBin gMul (dIxO 0 (dC (.int 1))) (dIxO 0 (dC (.int 1)))) (dC (.int 2147483629))) (dC (.int 32))) (dVar 1)))))
def c_l_draw : DEn := callC 3 [0] b_l_draw
theorem sc_l_draw : FnScope ["_law_stream_here", "_law_count", "_law_result"] ["_law_stream_here", "_law_count"] (defScope (topS 47)) := ⟨rfl, rfl, rfl, by decide +kernel, rfl, by decide +kernel, by decide +kernel⟩
theorem fd_l_draw (T : TT fa fn K mg) : FdOk P w K mg base 1 (cad K "_law_draw") 2 c_l_draw := by
  obtain ⟨fd, F⟩ := T.def_ 1
  refine FdOk.of (N := ["_law_stream_here", "_law_count", "_law_result"]) (ps := ["_law_stream_here", "_law_count"]) (k := 0) (Pw := [0]) (s := b_l_draw) F sc_l_draw (fun _ _ _ _ _ _ us hl => match us, hl with | [_, _], _ => rfl) (fun cdv A outer s0 H E hr => ?_)
  have hN := sc_l_draw.nd
  have tk := takes_of (X := cxOf (L2.CX P w) P w K mg base ["_law_stream_here", "_law_count", "_law_result"] "_law_draw" (defScope (topS 47)) (cad K "_law_draw") cdv A outer s0 H E) (E := E) rfl rfl rfl rfl
  exact (dss_cons (ds_if (dt_cmp o_gt (de_ixO (pv 0) de_int (fun _ _ => rfl)) de_int (by rfl)) (dss_cons (ds_set hN rfl (.inl rfl) (by decide) (de_bin o_mod (de_ixO (pv 0) de_int (fun _ _ => rfl)) (de_var (pv 1)))) (dss_cons (ds_setIx (pv 0) de_int (de_bin o_fdiv (de_ixO (pv 0) de_int (fun _ _ => rfl)) (de_var (pv 1)))) (dss_one (ds_ret (de_var (pv 2)))))) dss_nil) (dss_cons (ds_setIx (pv 0) de_int (de_bin o_mod (de_bin o_add' (de_bin o_mul' (de_ixO (pv 0) de_int (fun _ _ => rfl)) de_int) de_int) de_int)) (dss_one (ds_ret (de_bin o_mod (de_bin o_fdiv (de_bin o_mod (de_bin o_mul' (de_ixO (pv 0) de_int (fun _ _ => rfl)) (de_ixO (pv 0) de_int (fun _ _ => rfl))) de_int) de_int) (de_var (pv 1)))))))
/-! #### _law_places -/
def bd_l_places_0 : DSt := (sIf (dOr (dBin gEq (dVar 1) (dC (.str "parts"))) (dOr (dBin gEq (dVar 3) (dC (.int 0))) (dAnd (dBin gEq (dVar 1) (dC (.str "ends"))) (dBin gEq (dVar 4) (dVar 0))))) (sDrop (dAppend 2 (dAll DL.gTup [.e (dVar 3), .e (dVar 4)]))) sNil)
def bd_l_places_1 : DSt := (sFor (srcR2 [.e (dBin gAdd (dVar 3) (dC (.int 1))), .e (dBin gAdd (dVar 0) (dC (.int 1)))]) (.name 4) bd_l_places_0)
def b_l_places : DSt := (sSeq (sSet 2 (dAll DL.gLst [])) (sSeq (sFor (srcR1 [.e (dVar 0)]) (.name 3) bd_l_places_1) (sRet (dVar 2))))
def c_l_places : DEn := callC 5 [] b_l_places
theorem sc_l_places : FnScope ["_law_length", "_law_game", "_law_found", "_law_start", "_law_end"] ["_law_length", "_law_game"] (defScope (topS 50)) := ⟨rfl, rfl, rfl, by decide +kernel, rfl, by decide +kernel, by decide +kernel⟩
theorem fd_l_places (T : TT fa fn K mg) : FdOk P w K mg base 1 (cad K "_law_places") 2 c_l_places := by
  obtain ⟨fd, F⟩ := T.def_ 2
  refine FdOk.of (N := ["_law_length", "_law_game", "_law_found", "_law_start", "_law_end"]) (ps := ["_law_length", "_law_game"]) (k := 0) (Pw := []) (s := b_l_places) F sc_l_places (fun _ _ _ _ _ _ us hl => match us, hl with | [_, _], _ => rfl) (fun cdv A outer s0 H E hr => ?_)
  have hN := sc_l_places.nd
  have tk := takes_of (X := cxOf (L2.CX P w) P w K mg base ["_law_length", "_law_game", "_law_found", "_law_start", "_law_end"] "_law_places" (defScope (topS 50)) (cad K "_law_places") cdv A outer s0 H E) (E := E) rfl rfl rfl rfl
  exact (dss_cons (ds_set hN rfl (.inl rfl) (by decide) (de_lst da_nil)) (dss_cons (ds_for (passes_of rfl) rfl (di_range1 rfl (T.free 4) (da_cons (de_var (pv 0)) da_nil)) (dg_name (pg_name hN rfl (.inl rfl))) (dss_one (ds_for (passes_of rfl) rfl (di_range2 rfl (T.free 4) (da_cons (de_bin o_add' (de_var (pv 3)) de_int) (da_cons (de_bin o_add' (de_var (pv 0)) de_int) da_nil))) (dg_name (pg_name hN rfl (.inl rfl))) (dss_one (ds_if (dt_bool (dw_or (dt_cmp (o_eq hr.units) (de_var (pv 1)) de_str (by rfl)) (dw_or (dt_cmp (o_eq hr.units) (de_var (pv 3)) de_int (by rfl)) (dw_or1 (dt_bool (dw_and (dt_cmp (o_eq hr.units) (de_var (pv 1)) de_str (by rfl)) (dw_and1 (dt_cmp (o_eq hr.units) (de_var (pv 4)) (de_var (pv 0)) (by rfl))))))))) (dss_one (ds_expr (de_append (pv 2) (de_tup (da_cons (de_var (pv 3)) (da_cons (de_var (pv 4)) da_nil)))))) dss_nil)) (by decide))) (by decide)) (dss_one (ds_ret (de_var (pv 2))))))
/-! #### _law_words -/
def el_l_words_0 : DEn := (dBin gAdd (dVar 3) (dC (.str "0")))
def el_l_words_1 : DEn := (dBin gAdd (dVar 3) (dC (.str "1")))
def bd_l_words_0 : DSt := (sSet 1 (dBin gAdd (dLc (srcOf gLstI (dVar 1)) [3] (.name 3) (dC (.bl true)) el_l_words_0) (dLc (srcOf gLstI (dVar 1)) [3] (.name 3) (dC (.bl true)) el_l_words_1)))
def b_l_words : DSt := (sSeq (sSet 1 (dAll DL.gLst [.e (dC (.str ""))])) (sSeq (sFor (srcR1 [.e (dVar 0)]) (.name 2) bd_l_words_0) (sRet (dVar 1))))
def c_l_words : DEn := callC 4 [] b_l_words
theorem sc_l_words : FnScope ["_law_length", "_law_found", "_law_turn_here", "_law_word"] ["_law_length"] (defScope (topS 52)) := ⟨rfl, rfl, rfl, by decide +kernel, rfl, by decide +kernel, by decide +kernel⟩
theorem fd_l_words (T : TT fa fn K mg) : FdOk P w K mg base 1 (cad K "_law_words") 1 c_l_words := by
  obtain ⟨fd, F⟩ := T.def_ 3
  refine FdOk.of (N := ["_law_length", "_law_found", "_law_turn_here", "_law_word"]) (ps := ["_law_length"]) (k := 0) (Pw := []) (s := b_l_words) F sc_l_words (fun _ _ _ _ _ _ us hl => match us, hl with | [_], _ => rfl) (fun cdv A outer s0 H E hr => ?_)
  have hN := sc_l_words.nd
  have tk := takes_of (X := cxOf (L2.CX P w) P w K mg base ["_law_length", "_law_found", "_law_turn_here", "_law_word"] "_law_words" (defScope (topS 52)) (cad K "_law_words") cdv A outer s0 H E) (E := E) rfl rfl rfl rfl
  exact (dss_cons (ds_set hN rfl (.inl rfl) (by decide) (de_lst (da_cons de_str da_nil))) (dss_cons (ds_for (passes_of rfl) rfl (di_range1 rfl (T.free 4) (da_cons (de_var (pv 0)) da_nil)) (dg_name (pg_name hN rfl (.inl rfl))) (dss_one (ds_set hN rfl (.inl rfl) (by decide) (de_bin o_add' (de_lc (own := [("_law_word", 3)]) rfl hN (di_list (de_var (pv 1))) (blkOk_by (own := [("_law_word", 3)]) (N := ["_law_length", "_law_found", "_law_turn_here", "_law_word"]) (sc := defScope (topS 52)) (by decide +kernel)) (fun _ _ _ _ _ => (dg_name (pg_name hN rfl (.inl rfl)))) (fun _ _ _ _ _ => pts_yes) (fun _ _ _ _ _ => (de_bin o_add' (de_var (pv 3)) de_str)) (by decide)) (de_lc (own := [("_law_word", 3)]) rfl hN (di_list (de_var (pv 1))) (blkOk_by (own := [("_law_word", 3)]) (N := ["_law_length", "_law_found", "_law_turn_here", "_law_word"]) (sc := defScope (topS 52)) (by decide +kernel)) (fun _ _ _ _ _ => (dg_name (pg_name hN rfl (.inl rfl)))) (fun _ _ _ _ _ => pts_yes) (fun _ _ _ _ _ => (de_bin o_add' (de_var (pv 3)) de_str)) (by decide))))) (by decide)) (dss_one (ds_ret (de_var (pv 1))))))
/-! #### _law_is_done -/
def el_l_is_done_0 : DEn := (dVar 2)
def ct_l_is_done_0 : DEn := (dBin gNe (dBin gIx (dVar 0) (dVar 2)) (dBin gIx (dVar 0) (dBin gSub (dVar 2) (dC (.int 1)))))
def b_l_is_done : DSt := (sSeq (sIf (dBin gEq (dVar 1) (dC (.str "sorted"))) (sRet (dBin gNotInT (dC (.str "10")) (dVar 0))) sNil) (sRet (dBin gLt (dAll gLen [.e (dLc (srcR2 [.e (dC (.int 1)), .e (dAll gLen [.e (dVar 0)])]) [2] (.name 2) ct_l_is_done_0 el_l_is_done_0)]) (dC (.int 2)))))
def c_l_is_done : DEn := callC 3 [] b_l_is_done
theorem sc_l_is_done : FnScope ["_law_word", "_law_goal", "_law_at"] ["_law_word", "_law_goal"] (defScope (topS 51)) := ⟨rfl, rfl, rfl, by decide +kernel, rfl, by decide +kernel, by decide +kernel⟩
theorem fd_l_is_done (T : TT fa fn K mg) : FdOk P w K mg base 1 (cad K "_law_is_done") 2 c_l_is_done := by
  obtain ⟨fd, F⟩ := T.def_ 4
  refine FdOk.of (N := ["_law_word", "_law_goal", "_law_at"]) (ps := ["_law_word", "_law_goal"]) (k := 0) (Pw := []) (s := b_l_is_done) F sc_l_is_done (fun _ _ _ _ _ _ us hl => match us, hl with | [_, _], _ => rfl) (fun cdv A outer s0 H E hr => ?_)
  have hN := sc_l_is_done.nd
  have tk := takes_of (X := cxOf (L2.CX P w) P w K mg base ["_law_word", "_law_goal", "_law_at"] "_law_is_done" (defScope (topS 51)) (cad K "_law_is_done") cdv A outer s0 H E) (E := E) rfl rfl rfl rfl
  exact (dss_cons (ds_if (dt_cmp (o_eq hr.units) (de_var (pv 1)) de_str (by rfl)) (dss_one (ds_ret (de_cmp o_notInT de_str (de_var (pv 0)) (by with_unfolding_all rfl)))) dss_nil) (dss_one (ds_ret (de_cmp o_lt (de_len rfl (T.free 1) (da_cons (de_lc (own := [("_law_at", 2)]) rfl hN (di_range2 rfl (T.free 4) (da_cons de_int (da_cons (de_len rfl (T.free 1) (da_cons (de_var (pv 0)) da_nil)) da_nil))) (blkOk_by (own := [("_law_at", 2)]) (N := ["_law_word", "_law_goal", "_law_at"]) (sc := defScope (topS 51)) (by decide +kernel)) (fun _ _ _ _ _ => (dg_name (pg_name hN rfl (.inl rfl)))) (fun _ _ _ _ _ => (pts_test (dt_cmp (o_ne hr.units) (de_ix i_ix (de_var (pv 0)) (de_var (pv 2)) (fun _ _ => rfl)) (de_ix i_ix (de_var (pv 0)) (de_bin o_sub (de_var (pv 2)) de_int) (fun _ _ => rfl)) (by rfl)))) (fun _ _ _ _ _ => (de_var (pv 2))) (by decide)) da_nil)) de_int (by rfl)))))
/-! #### _law_turn -/
def b_l_turn : DSt := (sRet (dBin gAdd (dBin gAdd (dSl (dVar 0) .no (.e (dVar 1))) (dRevS (dSl (dVar 0) (.e (dVar 1)) (.e (dVar 2))))) (dSl (dVar 0) (.e (dVar 2)) .no)))
def c_l_turn : DEn := callC 3 [] b_l_turn
theorem sc_l_turn : FnScope ["_law_word", "_law_start", "_law_end"] ["_law_word", "_law_start", "_law_end"] (defScope (topS 49)) := ⟨rfl, rfl, rfl, by decide +kernel, rfl, by decide +kernel, by decide +kernel⟩
theorem fd_l_turn (T : TT fa fn K mg) : FdOk P w K mg base 1 (cad K "_law_turn") 3 c_l_turn := by
  obtain ⟨fd, F⟩ := T.def_ 5
  refine FdOk.of (N := ["_law_word", "_law_start", "_law_end"]) (ps := ["_law_word", "_law_start", "_law_end"]) (k := 0) (Pw := []) (s := b_l_turn) F sc_l_turn (fun _ _ _ _ _ _ us hl => match us, hl with | [_, _, _], _ => rfl) (fun cdv A outer s0 H E hr => ?_)
  have hN := sc_l_turn.nd
  have tk := takes_of (X := cxOf (L2.CX P w) P w K mg base ["_law_word", "_law_start", "_law_end"] "_law_turn" (defScope (topS 49)) (cad K "_law_turn") cdv A outer s0 H E) (E := E) rfl rfl rfl rfl
  exact (dss_one (ds_ret (de_bin o_add' (de_bin o_add' (de_sl (de_var (pv 0)) do_none (do_some (de_var (pv 1)))) (de_revS (de_sl (de_var (pv 0)) (do_some (de_var (pv 1))) (do_some (de_var (pv 2)))))) (de_sl (de_var (pv 0)) (do_some (de_var (pv 2))) do_none))))
/-! #### _law_costs -/
def el_l_costs_0 : DEn := (dVar 6)
def ct_l_costs_0 : DEn := (dCall c_l_is_done [.e (dVar 6), .e (dVar 2)])
def bd_l_costs_0 : DSt := (sDicPut 3 (dVar 6) (dC (.int 0)))
def bd_l_costs_1 : DSt := (sSeq (sSet 10 (dCall c_l_turn [.e (dVar 6), .e (dVar 8), .e (dVar 9)])) (sIf (dDIn true 3 (dVar 10)) (sSeq (sDicPut 3 (dVar 10) (dBin gAdd (dDIx 3 (dVar 6)) (dC (.int 1)))) (sDrop (dAppend 7 (dVar 10)))) sNil))
def bd_l_costs_2 : DSt := (sFor (srcOf gLstI (dVar 4)) (.tup (.cons (.name 8) (.cons (.name 9) .nil))) bd_l_costs_1)
def bd_l_costs_3 : DSt := (sSeq (sSet 7 (dAll DL.gLst [])) (sSeq (sFor (srcOf gLstI (dVar 5)) (.name 6) bd_l_costs_2) (sSet 5 (dVar 7))))
def wt_l_costs_0 : DEn := (dBin gNe (dVar 5) (dAll DL.gLst []))
def b_l_costs : DSt := (sSeq (sPar [3, 4] [dNewDic, (dCall c_l_places [.e (dVar 0), .e (dVar 1)])]) (sSeq (sSet 5 (dLc (srcOf gLstI (dCall c_l_words [.e (dVar 0)])) [6] (.name 6) ct_l_costs_0 el_l_costs_0)) (sSeq (sFor (srcOf gLstI (dVar 5)) (.name 6) bd_l_costs_0) (sSeq (runWhile wt_l_costs_0 bd_l_costs_3 10000) (sRet (dVarL 3))))))
def c_l_costs : DEn := callC 11 [] b_l_costs
theorem sc_l_costs : FnScope ["_law_length", "_law_game", "_law_goal", "_law_known", "_law_places_here", "_law_layer", "_law_word", "_law_later", "_law_start", "_law_end", "_law_other"] ["_law_length", "_law_game", "_law_goal"] (defScope (topS 53)) := ⟨rfl, rfl, rfl, by decide +kernel, rfl, by decide +kernel, by decide +kernel⟩
theorem fd_l_costs (T : TT fa fn K mg) : FdOk P w K mg base 2 (cad K "_law_costs") 3 c_l_costs := by
  obtain ⟨fd, F⟩ := T.def_ 6
  refine FdOk.of (N := ["_law_length", "_law_game", "_law_goal", "_law_known", "_law_places_here", "_law_layer", "_law_word", "_law_later", "_law_start", "_law_end", "_law_other"]) (ps := ["_law_length", "_law_game", "_law_goal"]) (k := 1) (Pw := []) (s := b_l_costs) F sc_l_costs (fun _ _ _ _ _ _ us hl => match us, hl with | [_, _, _], _ => rfl) (fun cdv A outer s0 H E hr => ?_)
  have hN := sc_l_costs.nd
  have tk := takes_of (X := cxOf (L2.CX P w) P w K mg base ["_law_length", "_law_game", "_law_goal", "_law_known", "_law_places_here", "_law_layer", "_law_word", "_law_later", "_law_start", "_law_end", "_law_other"] "_law_costs" (defScope (topS 53)) (cad K "_law_costs") cdv A outer s0 H E) (E := E) rfl rfl rfl rfl
  exact (dss_cons (ds_parR2 rfl hN rfl rfl (by decide) (by decide) (by decide) rfl rfl (drs_cons de_newDic (drs_cons (de_call (fd_l_places T) (hr.mono (by decide)) rfl (T.glo 8) tk (da_cons (de_var (pv 0)) (da_cons (de_var (pv 1)) da_nil)) rfl) drs_nil)) (by rfl)) (dss_cons (ds_setLc (own := [("_law_word", 6)]) rfl hN rfl rfl (by decide) (sw_true rfl rfl rfl (by decide +kernel)) (di_list (de_call (fd_l_words T) (hr.mono (by decide)) rfl (T.glo 9) tk (da_cons (de_var (pv 0)) da_nil) rfl)) (blkOk_by (own := [("_law_word", 6)]) (N := ["_law_length", "_law_game", "_law_goal", "_law_known", "_law_places_here", "_law_layer", "_law_word", "_law_later", "_law_start", "_law_end", "_law_other"]) (sc := defScope (topS 53)) (by decide +kernel)) (fun _ _ _ _ _ => (dg_name (pg_name hN rfl (.inl rfl)))) (fun _ _ _ _ _ => (pts_test (dt_of (de_call (fd_l_is_done T) (hr.mono (by decide)) rfl (T.glo 10) takes0 (da_cons (de_var (pv 6)) (da_cons (de_var (pv 2)) da_nil)) rfl)))) (fun _ _ _ _ _ => (de_var (pv 6))) (by decide)) (dss_cons (ds_for (passes_of rfl) rfl (di_list (de_var (pv 5))) (dg_name (pg_name hN rfl (.inl rfl))) (dss_one (ds_dicPut (hu1 (room65 hr)) (pv 3) (de_var (pv 6)) de_int)) (by decide)) (dss_cons (ds_while 10000 (passes_of rfl) (dt_cmp (o_ne hr.units) (de_var (pv 5)) (de_lst da_nil) (by rfl)) (dss_cons (ds_set hN rfl (.inl rfl) (by decide) (de_lst da_nil)) (dss_cons (ds_for (passes_of rfl) rfl (di_list (de_var (pv 5))) (dg_name (pg_name hN rfl (.inl rfl))) (dss_one (ds_for (passes_of rfl) rfl (di_list (de_var (pv 4))) (dg_tup rfl (dgs_cons (dg_name (pg_name hN rfl (.inl rfl))) (dgs_cons (dg_name (pg_name hN rfl (.inl rfl))) dgs_nil))) (dss_cons (ds_set hN rfl (.inl rfl) (by decide) (de_call (fd_l_turn T) (hr.mono (by decide)) rfl (T.glo 11) tk (da_cons (de_var (pv 6)) (da_cons (de_var (pv 8)) (da_cons (de_var (pv 9)) da_nil))) rfl)) (dss_one (ds_if (dt_dnotin (hu1 (room65 hr)) (de_var (pv 10)) (pv 3)) (dss_cons (ds_dicPut (hu1 (room65 hr)) (pv 3) (de_var (pv 10)) (de_bin o_add' (de_dix (hu1 (room65 hr)) (pv 3) (de_var (pv 6))) de_int)) (dss_one (ds_expr (de_append (pv 7) (de_var (pv 10)))))) dss_nil))) (by decide))) (by decide)) (dss_one (ds_set hN rfl (.inl rfl) (by decide) (de_var (pv 7))))))) (dss_one (ds_ret (de_varL (pv 3))))))))
/-! #### is_number -/
def b_is_number : DSt := (sRet (dAnd (dUn (gIsi kitTab (.ty "int")) (dVar 0)) (dAnd (dNot (dUn (gIsi kitTab (.ty "bool")) (dVar 0))) (dChain leB leB (dVar 1) (dVar 0) (dVar 2)))))
def c_is_number : DEn := callC 3 [] b_is_number
theorem sc_is_number : FnScope ["candidate", "least", "greatest"] ["candidate", "least", "greatest"] (defScope (topS 10)) := ⟨rfl, rfl, rfl, by decide +kernel, rfl, by decide +kernel, by decide +kernel⟩
theorem fd_is_number (T : TT fa fn K mg) : FdOk P w K mg base 1 (cad K "is_number") 3 c_is_number := by
  obtain ⟨fd, F⟩ := T.def_ 7
  refine FdOk.of (N := ["candidate", "least", "greatest"]) (ps := ["candidate", "least", "greatest"]) (k := 0) (Pw := []) (s := b_is_number) F sc_is_number (fun _ _ _ _ _ _ us hl => match us, hl with | [_, _, _], _ => rfl) (fun cdv A outer s0 H E hr => ?_)
  have hN := sc_is_number.nd
  have tk := takes_of (X := cxOf (L2.CX P w) P w K mg base ["candidate", "least", "greatest"] "is_number" (defScope (topS 10)) (cad K "is_number") cdv A outer s0 H E) (E := E) rfl rfl rfl rfl
  exact (dss_one (ds_ret (de_and (de_isiT (kitOk T) rfl (T.free 5) (by decide +kernel) rfl (T.free 15) (de_var (pv 0))) (de_and (de_not (de_isiT (kitOk T) rfl (T.free 16) (by decide +kernel) rfl (T.free 15) (de_var (pv 0)))) (de_one (de_chain (p := leB) (q := leB) op_le op_le (de_var (pv 1)) (de_var (pv 0)) (de_var (pv 2))))))))
/-! #### check_length -/
def b_check_length : DSt := (sIf (dNot (dCall c_is_number [.e (dVar 0), .e (dC (.int 0)), .e (dVar 1)])) (sRaise "InvalidNumber") sNil)
def c_check_length : DEn := callC 2 [] b_check_length
theorem sc_check_length : FnScope ["length", "most"] ["length", "most"] (defScope (topS 33)) := ⟨rfl, rfl, rfl, by decide +kernel, rfl, by decide +kernel, by decide +kernel⟩
theorem fd_check_length (T : TT fa fn K mg) : FdOk P w K mg base 2 (cad K "check_length") 2 c_check_length := by
  obtain ⟨fd, F⟩ := T.def_ 8
  refine FdOk.of (N := ["length", "most"]) (ps := ["length", "most"]) (k := 1) (Pw := []) (s := b_check_length) F sc_check_length (fun _ _ _ _ _ _ us hl => match us, hl with | [_, _], _ => rfl) (fun cdv A outer s0 H E hr => ?_)
  have hN := sc_check_length.nd
  have tk := takes_of (X := cxOf (L2.CX P w) P w K mg base ["length", "most"] "check_length" (defScope (topS 33)) (cad K "check_length") cdv A outer s0 H E) (E := E) rfl rfl rfl rfl
  exact (dss_one (ds_if (dt_not (dt_of (de_call (fd_is_number T) (hr.mono (by decide)) rfl (T.glo 17) tk (da_cons (de_var (pv 0)) (da_cons de_int (da_cons (de_var (pv 1)) da_nil))) rfl))) (dss_one (ds_raise (f_exc (T.fact 18) PySem.F.excBase_ValueError) rfl tk rfl (T.glo 19))) dss_nil))
/-! #### is_count -/
def b_is_count : DSt := (sRet (dAnd (dUn (gIsi kitTab (.ty "int")) (dVar 0)) (dAnd (dNot (dUn (gIsi kitTab (.ty "bool")) (dVar 0))) (dBin gGe (dVar 0) (dC (.int 0))))))
def c_is_count : DEn := callC 1 [] b_is_count
theorem sc_is_count : FnScope ["candidate"] ["candidate"] (defScope (topS 11)) := ⟨rfl, rfl, rfl, by decide +kernel, rfl, by decide +kernel, by decide +kernel⟩
theorem fd_is_count (T : TT fa fn K mg) : FdOk P w K mg base 1 (cad K "is_count") 1 c_is_count := by
  obtain ⟨fd, F⟩ := T.def_ 9
  refine FdOk.of (N := ["candidate"]) (ps := ["candidate"]) (k := 0) (Pw := []) (s := b_is_count) F sc_is_count (fun _ _ _ _ _ _ us hl => match us, hl with | [_], _ => rfl) (fun cdv A outer s0 H E hr => ?_)
  have hN := sc_is_count.nd
  have tk := takes_of (X := cxOf (L2.CX P w) P w K mg base ["candidate"] "is_count" (defScope (topS 11)) (cad K "is_count") cdv A outer s0 H E) (E := E) rfl rfl rfl rfl
  exact (dss_one (ds_ret (de_and (de_isiT (kitOk T) rfl (T.free 5) (by decide +kernel) rfl (T.free 15) (de_var (pv 0))) (de_and (de_not (de_isiT (kitOk T) rfl (T.free 16) (by decide +kernel) rfl (T.free 15) (de_var (pv 0)))) (de_one (de_cmp o_ge (de_var (pv 0)) de_int (by rfl)))))))
/-! #### check_count -/
def b_check_count : DSt := (sIf (dNot (dCall c_is_count [.e (dVar 0)])) (sRaise "InvalidNumber") sNil)
def c_check_count : DEn := callC 1 [] b_check_count
theorem sc_check_count : FnScope ["candidate"] ["candidate"] (defScope (topS 20)) := ⟨rfl, rfl, rfl, by decide +kernel, rfl, by decide +kernel, by decide +kernel⟩
theorem fd_check_count (T : TT fa fn K mg) : FdOk P w K mg base 2 (cad K "check_count") 1 c_check_count := by
  obtain ⟨fd, F⟩ := T.def_ 10
  refine FdOk.of (N := ["candidate"]) (ps := ["candidate"]) (k := 1) (Pw := []) (s := b_check_count) F sc_check_count (fun _ _ _ _ _ _ us hl => match us, hl with | [_], _ => rfl) (fun cdv A outer s0 H E hr => ?_)
  have hN := sc_check_count.nd
  have tk := takes_of (X := cxOf (L2.CX P w) P w K mg base ["candidate"] "check_count" (defScope (topS 20)) (cad K "check_count") cdv A outer s0 H E) (E := E) rfl rfl rfl rfl
  exact (dss_one (ds_if (dt_not (dt_of (de_call (fd_is_count T) (hr.mono (by decide)) rfl (T.glo 21) tk (da_cons (de_var (pv 0)) da_nil) rfl))) (dss_one (ds_raise (f_exc (T.fact 18) PySem.F.excBase_ValueError) rfl tk rfl (T.glo 19))) dss_nil))
/-! #### choices -/
def bd_choices_0 : DSt := (sDrop (dAppend 1 (dBin gFdiv (dBin gMul (dIxO 1 (dUn gNeg (dC (.int 1)))) (dBin gSub (dVar 0) (dVar 2))) (dBin gAdd (dVar 2) (dC (.int 1))))))
def b_choices : DSt := (sSeq (sSet 1 (dAll DL.gLst [.e (dC (.int 1))])) (sSeq (sFor (srcR1 [.e (dVar 0)]) (.name 2) bd_choices_0) (sRet (dVar 1))))
def c_choices : DEn := callC 3 [] b_choices
theorem sc_choices : FnScope ["total", "found", "size"] ["total"] (defScope (topS 34)) := ⟨rfl, rfl, rfl, by decide +kernel, rfl, by decide +kernel, by decide +kernel⟩
theorem fd_choices (T : TT fa fn K mg) : FdOk P w K mg base 1 (cad K "choices") 1 c_choices := by
  obtain ⟨fd, F⟩ := T.def_ 11
  refine FdOk.of (N := ["total", "found", "size"]) (ps := ["total"]) (k := 0) (Pw := []) (s := b_choices) F sc_choices (fun _ _ _ _ _ _ us hl => match us, hl with | [_], _ => rfl) (fun cdv A outer s0 H E hr => ?_)
  have hN := sc_choices.nd
  have tk := takes_of (X := cxOf (L2.CX P w) P w K mg base ["total", "found", "size"] "choices" (defScope (topS 34)) (cad K "choices") cdv A outer s0 H E) (E := E) rfl rfl rfl rfl
  exact (dss_cons (ds_set hN rfl (.inl rfl) (by decide) (de_lst (da_cons de_int da_nil))) (dss_cons (ds_for (passes_of rfl) rfl (di_range1 rfl (T.free 4) (da_cons (de_var (pv 0)) da_nil)) (dg_name (pg_name hN rfl (.inl rfl))) (dss_one (ds_expr (de_append (pv 1) (de_bin o_fdiv (de_bin o_mul' (de_ixO (pv 1) (de_un u_neg de_int) (fun _ _ => rfl)) (de_bin o_sub (de_var (pv 0)) (de_var (pv 2)))) (de_bin o_add' (de_var (pv 2)) de_int))))) (by decide)) (dss_one (ds_ret (de_var (pv 1))))))
/-! #### divisions -/
def el_divisions_0 : DEn := (dC (.int 0))
def el_divisions_1 : DEn := (dC (.int 0))
def b_divisions : DSt := (sSeq (sIf (dBin gEq (dVar 0) (dC (.int 0))) (sRet (dAllS DL.gLst [(false, (dC (.int 1))), (true, (dLc (srcR1 [.e (dVar 1)]) [3] (.name 3) (dC (.bl true)) el_divisions_0))])) sNil) (sSeq (sSet 2 (dAllS DL.gLst [(false, (dC (.int 0))), (true, (dCall c_choices [.e (dBin gSub (dVar 0) (dC (.int 1)))]))])) (sRet (dBin gAdd (dSl (dVar 2) .no (.e (dBin gAdd (dVar 1) (dC (.int 1))))) (dLc (srcR1 [.e (dBin gSub (dBin gAdd (dVar 1) (dC (.int 1))) (dAll gLen [.e (dVar 2)]))]) [3] (.name 3) (dC (.bl true)) el_divisions_1)))))
def c_divisions : DEn := callC 4 [] b_divisions
theorem sc_divisions : FnScope ["items", "most", "found", "number"] ["items", "most"] (defScope (topS 35)) := ⟨rfl, rfl, rfl, by decide +kernel, rfl, by decide +kernel, by decide +kernel⟩
theorem fd_divisions (T : TT fa fn K mg) : FdOk P w K mg base 2 (cad K "divisions") 2 c_divisions := by
  obtain ⟨fd, F⟩ := T.def_ 12
  refine FdOk.of (N := ["items", "most", "found", "number"]) (ps := ["items", "most"]) (k := 1) (Pw := []) (s := b_divisions) F sc_divisions (fun _ _ _ _ _ _ us hl => match us, hl with | [_, _], _ => rfl) (fun cdv A outer s0 H E hr => ?_)
  have hN := sc_divisions.nd
  have tk := takes_of (X := cxOf (L2.CX P w) P w K mg base ["items", "most", "found", "number"] "divisions" (defScope (topS 35)) (cad K "divisions") cdv A outer s0 H E) (E := E) rfl rfl rfl rfl
  exact (dss_cons (ds_if (dt_cmp (o_eq hr.units) (de_var (pv 0)) de_int (by rfl)) (dss_one (ds_ret (de_lstS (das_cons de_int (das_star (de_lc (own := [("number", 3)]) rfl hN (di_range1 rfl (T.free 4) (da_cons (de_var (pv 1)) da_nil)) (blkOk_by (own := [("number", 3)]) (N := ["items", "most", "found", "number"]) (sc := defScope (topS 35)) (by decide +kernel)) (fun _ _ _ _ _ => (dg_name (pg_name hN rfl (.inl rfl)))) (fun _ _ _ _ _ => pts_yes) (fun _ _ _ _ _ => de_int) (by decide)) das_nil))))) dss_nil) (dss_cons (ds_set hN rfl (.inl rfl) (by decide) (de_lstS (das_cons de_int (das_star (de_call (fd_choices T) (hr.mono (by decide)) rfl (T.glo 23) tk (da_cons (de_bin o_sub (de_var (pv 0)) de_int) da_nil) rfl) das_nil)))) (dss_one (ds_ret (de_bin o_add' (de_sl (de_var (pv 2)) do_none (do_some (de_bin o_add' (de_var (pv 1)) de_int))) (de_lc (own := [("number", 3)]) rfl hN (di_range1 rfl (T.free 4) (da_cons (de_bin o_sub (de_bin o_add' (de_var (pv 1)) de_int) (de_len rfl (T.free 1) (da_cons (de_var (pv 2)) da_nil))) da_nil)) (blkOk_by (own := [("number", 3)]) (N := ["items", "most", "found", "number"]) (sc := defScope (topS 35)) (by decide +kernel)) (fun _ _ _ _ _ => (dg_name (pg_name hN rfl (.inl rfl)))) (fun _ _ _ _ _ => pts_yes) (fun _ _ _ _ _ => de_int) (by decide)))))))
/-! #### count_rows -/
def b_count_rows : DSt := (sSeq (sDrop (dCall c_check_length [.e (dVar 0), .e (dC (.int 3000))])) (sSeq (sDrop (dCall c_check_count [.e (dVar 1)])) (sSeq (sIf (dOr (dBin gEq (dVar 0) (dC (.int 0))) (dOr (dBin gEq (dVar 1) (dC (.int 0))) (dBin gGt (dVar 1) (dVar 0)))) (sRet (dAll gInt [.e (dAnd (dBin gEq (dVar 0) (dC (.int 0))) (dBin gEq (dVar 1) (dC (.int 0))))])) sNil) (sRet (dBin gMul (dC (.int 2)) (dBin gIx (dCall c_divisions [.e (dVar 0), .e (dVar 1)]) (dVar 1)))))))
def c_count_rows : DEn := callC 2 [] b_count_rows
theorem sc_count_rows : FnScope ["length", "runs"] ["length", "runs"] (defScope (topS 37)) := ⟨rfl, rfl, rfl, by decide +kernel, rfl, by decide +kernel, by decide +kernel⟩
theorem fd_count_rows (T : TT fa fn K mg) : FdOk P w K mg base 3 (cad K "count_rows") 2 c_count_rows := by
  obtain ⟨fd, F⟩ := T.def_ 13
  refine FdOk.of (N := ["length", "runs"]) (ps := ["length", "runs"]) (k := 2) (Pw := []) (s := b_count_rows) F sc_count_rows (fun _ _ _ _ _ _ us hl => match us, hl with | [_, _], _ => rfl) (fun cdv A outer s0 H E hr => ?_)
  have hN := sc_count_rows.nd
  have tk := takes_of (X := cxOf (L2.CX P w) P w K mg base ["length", "runs"] "count_rows" (defScope (topS 37)) (cad K "count_rows") cdv A outer s0 H E) (E := E) rfl rfl rfl rfl
  exact (dss_cons (ds_expr (de_call (fd_check_length T) (hr.mono (by decide)) rfl (T.glo 20) tk (da_cons (de_var (pv 0)) (da_cons (de_globI rfl (T.int 14)) da_nil)) rfl)) (dss_cons (ds_expr (de_call (fd_check_count T) (hr.mono (by decide)) rfl (T.glo 22) tk (da_cons (de_var (pv 1)) da_nil) rfl)) (dss_cons (ds_if (dt_bool (dw_or (dt_cmp (o_eq hr.units) (de_var (pv 0)) de_int (by rfl)) (dw_or (dt_cmp (o_eq hr.units) (de_var (pv 1)) de_int (by rfl)) (dw_or1 (dt_cmp o_gt (de_var (pv 1)) (de_var (pv 0)) (by rfl)))))) (dss_one (ds_ret (de_int1 rfl (T.free 5) (da_cons (de_and (de_cmp (o_eq hr.units) (de_var (pv 0)) de_int (by rfl)) (de_one (de_cmp (o_eq hr.units) (de_var (pv 1)) de_int (by rfl)))) da_nil)))) dss_nil) (dss_one (ds_ret (de_bin o_mul' de_int (de_ix i_ix (de_call (fd_divisions T) (hr.mono (by decide)) rfl (T.glo 24) tk (da_cons (de_var (pv 0)) (da_cons (de_var (pv 1)) da_nil)) rfl) (de_var (pv 1)) (fun _ _ => rfl))))))))
/-! #### _law_runs -/
def el_l_runs_0 : DEn := (dVar 1)
def ct_l_runs_0 : DEn := (dOr (dBin gEq (dVar 1) (dC (.int 0))) (dBin gNe (dBin gIx (dVar 0) (dVar 1)) (dBin gIx (dVar 0) (dBin gSub (dVar 1) (dC (.int 1))))))
def b_l_runs : DSt := (sRet (dAll gLen [.e (dLc (srcR1 [.e (dAll gLen [.e (dVar 0)])]) [1] (.name 1) ct_l_runs_0 el_l_runs_0)]))
def c_l_runs : DEn := callC 2 [] b_l_runs
theorem sc_l_runs : FnScope ["_law_word", "_law_at"] ["_law_word"] (defScope (topS 54)) := ⟨rfl, rfl, rfl, by decide +kernel, rfl, by decide +kernel, by decide +kernel⟩
theorem fd_l_runs (T : TT fa fn K mg) : FdOk P w K mg base 1 (cad K "_law_runs") 1 c_l_runs := by
  obtain ⟨fd, F⟩ := T.def_ 14
  refine FdOk.of (N := ["_law_word", "_law_at"]) (ps := ["_law_word"]) (k := 0) (Pw := []) (s := b_l_runs) F sc_l_runs (fun _ _ _ _ _ _ us hl => match us, hl with | [_], _ => rfl) (fun cdv A outer s0 H E hr => ?_)
  have hN := sc_l_runs.nd
  have tk := takes_of (X := cxOf (L2.CX P w) P w K mg base ["_law_word", "_law_at"] "_law_runs" (defScope (topS 54)) (cad K "_law_runs") cdv A outer s0 H E) (E := E) rfl rfl rfl rfl
  exact (dss_one (ds_ret (de_len rfl (T.free 1) (da_cons (de_lc (own := [("_law_at", 1)]) rfl hN (di_range1 rfl (T.free 4) (da_cons (de_len rfl (T.free 1) (da_cons (de_var (pv 0)) da_nil)) da_nil)) (blkOk_by (own := [("_law_at", 1)]) (N := ["_law_word", "_law_at"]) (sc := defScope (topS 54)) (by decide +kernel)) (fun _ _ _ _ _ => (dg_name (pg_name hN rfl (.inl rfl)))) (fun _ _ _ _ _ => (pts_test (dt_bool (dw_or (dt_cmp (o_eq hr.units) (de_var (pv 1)) de_int (by rfl)) (dw_or1 (dt_cmp (o_ne hr.units) (de_ix i_ix (de_var (pv 0)) (de_var (pv 1)) (fun _ _ => rfl)) (de_ix i_ix (de_var (pv 0)) (de_bin o_sub (de_var (pv 1)) de_int) (fun _ _ => rfl)) (by rfl))))))) (fun _ _ _ _ _ => (de_var (pv 1))) (by decide)) da_nil))))
/-! #### check_game -/
def b_check_game : DSt := (sIf (dOr (dNot (dUn (gIsi kitTab (.ty "str")) (dVar 0))) (dBin gNotIn (dVar 0) (dC (.fix ((["front", "ends", "parts"] : List String).map fun z => .str (Str.ofString z)))))) (sRaise "InvalidGame") sNil)
def c_check_game : DEn := callC 1 [] b_check_game
theorem sc_check_game : FnScope ["game"] ["game"] (defScope (topS 23)) := ⟨rfl, rfl, rfl, by decide +kernel, rfl, by decide +kernel, by decide +kernel⟩
theorem fd_check_game (T : TT fa fn K mg) : FdOk P w K mg base 1 (cad K "check_game") 1 c_check_game := by
  obtain ⟨fd, F⟩ := T.def_ 15
  refine FdOk.of (N := ["game"]) (ps := ["game"]) (k := 0) (Pw := []) (s := b_check_game) F sc_check_game (fun _ _ _ _ _ _ us hl => match us, hl with | [_], _ => rfl) (fun cdv A outer s0 H E hr => ?_)
  have hN := sc_check_game.nd
  have tk := takes_of (X := cxOf (L2.CX P w) P w K mg base ["game"] "check_game" (defScope (topS 23)) (cad K "check_game") cdv A outer s0 H E) (E := E) rfl rfl rfl rfl
  exact (dss_one (ds_if (dt_bool (dw_or (dt_not (dt_of (de_isiT (kitOk T) rfl (T.free 27) (by decide +kernel) rfl (T.free 15) (de_var (pv 0))))) (dw_or1 (dt_cmp (o_notIn (room65 hr)) (de_var (pv 0)) (de_globL rfl (T.lst 28)) (by with_unfolding_all rfl))))) (dss_one (ds_raise (f_exc (T.fact 29) PySem.F.excBase_ValueError) rfl tk rfl (T.glo 30))) dss_nil))
/-! #### check_goal -/
def b_check_goal : DSt := (sIf (dOr (dNot (dUn (gIsi kitTab (.ty "str")) (dVar 0))) (dBin gNotIn (dVar 0) (dC (.fix ((["grouped", "sorted"] : List String).map fun z => .str (Str.ofString z)))))) (sRaise "InvalidGoal") sNil)
def c_check_goal : DEn := callC 1 [] b_check_goal
theorem sc_check_goal : FnScope ["goal"] ["goal"] (defScope (topS 26)) := ⟨rfl, rfl, rfl, by decide +kernel, rfl, by decide +kernel, by decide +kernel⟩
theorem fd_check_goal (T : TT fa fn K mg) : FdOk P w K mg base 1 (cad K "check_goal") 1 c_check_goal := by
  obtain ⟨fd, F⟩ := T.def_ 16
  refine FdOk.of (N := ["goal"]) (ps := ["goal"]) (k := 0) (Pw := []) (s := b_check_goal) F sc_check_goal (fun _ _ _ _ _ _ us hl => match us, hl with | [_], _ => rfl) (fun cdv A outer s0 H E hr => ?_)
  have hN := sc_check_goal.nd
  have tk := takes_of (X := cxOf (L2.CX P w) P w K mg base ["goal"] "check_goal" (defScope (topS 26)) (cad K "check_goal") cdv A outer s0 H E) (E := E) rfl rfl rfl rfl
  exact (dss_one (ds_if (dt_bool (dw_or (dt_not (dt_of (de_isiT (kitOk T) rfl (T.free 27) (by decide +kernel) rfl (T.free 15) (de_var (pv 0))))) (dw_or1 (dt_cmp (o_notIn (room65 hr)) (de_var (pv 0)) (de_globL rfl (T.lst 32)) (by with_unfolding_all rfl))))) (dss_one (ds_raise (f_exc (T.fact 33) PySem.F.excBase_ValueError) rfl tk rfl (T.glo 34))) dss_nil))
/-! #### check_words -/
def b_check_words : DSt := (sSeq (sDrop (dCall c_check_game [.e (dVar 0)])) (sDrop (dCall c_check_goal [.e (dVar 1)])))
def c_check_words : DEn := callC 2 [] b_check_words
theorem sc_check_words : FnScope ["game", "goal"] ["game", "goal"] (defScope (topS 27)) := ⟨rfl, rfl, rfl, by decide +kernel, rfl, by decide +kernel, by decide +kernel⟩
theorem fd_check_words (T : TT fa fn K mg) : FdOk P w K mg base 2 (cad K "check_words") 2 c_check_words := by
  obtain ⟨fd, F⟩ := T.def_ 17
  refine FdOk.of (N := ["game", "goal"]) (ps := ["game", "goal"]) (k := 1) (Pw := []) (s := b_check_words) F sc_check_words (fun _ _ _ _ _ _ us hl => match us, hl with | [_, _], _ => rfl) (fun cdv A outer s0 H E hr => ?_)
  have hN := sc_check_words.nd
  have tk := takes_of (X := cxOf (L2.CX P w) P w K mg base ["game", "goal"] "check_words" (defScope (topS 27)) (cad K "check_words") cdv A outer s0 H E) (E := E) rfl rfl rfl rfl
  exact (dss_cons (ds_expr (de_call (fd_check_game T) (hr.mono (by decide)) rfl (T.glo 31) tk (da_cons (de_var (pv 0)) da_nil) rfl)) (dss_one (ds_expr (de_call (fd_check_goal T) (hr.mono (by decide)) rfl (T.glo 35) tk (da_cons (de_var (pv 1)) da_nil) rfl))))
/-! #### kinds_of_length -/
def el_kinds_of_length_0 : DEn := (dAll DL.gTup [.e (dVar 1), .e (dVar 2)])
def b_kinds_of_length : DSt := (sSeq (sIf (dBin gEq (dVar 0) (dC (.int 0))) (sRet (dAll DL.gLst [.e (dAll DL.gTup [.e (dC (.int 0)), .e (dC (.int 0))])])) sNil) (sRet (dLc2 (srcR2 [.e (dC (.int 1)), .e (dBin gAdd (dVar 0) (dC (.int 1)))]) [1, 2] [2] (.name 1) (dC (.bl true)) (srcOf gTupI (dAll DL.gTup [.e (dC (.int 0)), .e (dC (.int 1))])) (.name 2) (dC (.bl true)) el_kinds_of_length_0)))
def c_kinds_of_length : DEn := callC 3 [] b_kinds_of_length
theorem sc_kinds_of_length : FnScope ["length", "runs", "first"] ["length"] (defScope (topS 36)) := ⟨rfl, rfl, rfl, by decide +kernel, rfl, by decide +kernel, by decide +kernel⟩
theorem fd_kinds_of_length (T : TT fa fn K mg) : FdOk P w K mg base 1 (cad K "kinds_of_length") 1 c_kinds_of_length := by
  obtain ⟨fd, F⟩ := T.def_ 18
  refine FdOk.of (N := ["length", "runs", "first"]) (ps := ["length"]) (k := 0) (Pw := []) (s := b_kinds_of_length) F sc_kinds_of_length (fun _ _ _ _ _ _ us hl => match us, hl with | [_], _ => rfl) (fun cdv A outer s0 H E hr => ?_)
  have hN := sc_kinds_of_length.nd
  have tk := takes_of (X := cxOf (L2.CX P w) P w K mg base ["length", "runs", "first"] "kinds_of_length" (defScope (topS 36)) (cad K "kinds_of_length") cdv A outer s0 H E) (E := E) rfl rfl rfl rfl
  exact (dss_cons (ds_if (dt_cmp (o_eq hr.units) (de_var (pv 0)) de_int (by rfl)) (dss_one (ds_ret (de_lst (da_cons (de_tup (da_cons de_int (da_cons de_int da_nil))) da_nil)))) dss_nil) (dss_one (ds_ret (de_lc2 (own := [("runs", 1), ("first", 2)]) (vs1 := [2]) rfl hN (di_range2 rfl (T.free 4) (da_cons de_int (da_cons (de_bin o_add' (de_var (pv 0)) de_int) da_nil))) (blkOk_by (own := [("runs", 1), ("first", 2)]) (N := ["length", "runs", "first"]) (sc := defScope (topS 36)) (by decide +kernel)) (by decide) (fun _ _ _ _ _ => (dg_name (pg_name hN rfl (.inl rfl)))) (fun _ _ _ _ _ => pts_yes) (fun _ _ _ _ _ => (di_tup (de_tup (da_cons de_int (da_cons de_int da_nil))))) (fun _ _ _ _ _ => (dg_name (pg_name hN rfl (.inl rfl)))) (fun _ _ _ _ _ => pts_yes) (fun _ _ _ _ _ => (de_tup (da_cons (de_var (pv 1)) (da_cons (de_var (pv 2)) da_nil)))) (by decide) (by decide)))))
/-! #### sorting_cost -/
def b_sorting_cost : DSt := (sSeq (sSet 3 (dBin gMod (dBin gSub (dBin gAdd (dVar 1) (dVar 0)) (dC (.int 1))) (dC (.int 2)))) (sMatch (dVar 2) [(some "front", (sRet (dBin gAdd (dBin gSub (dVar 0) (dC (.int 2))) (dAll gInt [.e (dBin gEq (dVar 3) (dC (.int 0)))])))), (some "ends", (sRet (dBin gAdd (dBin gSub (dVar 0) (dC (.int 2))) (dAll gInt [.e (dAnd (dBin gEq (dVar 0) (dC (.int 2))) (dBin gEq (dVar 1) (dC (.int 1))))])))), (none, (sRet (dBin gFdiv (dBin gAdd (dBin gAdd (dBin gSub (dVar 0) (dC (.int 2))) (dVar 1)) (dAll gInt [.e (dBin gEq (dVar 3) (dC (.int 0)))])) (dC (.int 2)))))]))
def c_sorting_cost : DEn := callC 4 [] b_sorting_cost
theorem sc_sorting_cost : FnScope ["runs", "first", "game", "last"] ["runs", "first", "game"] (defScope (topS 28)) := ⟨rfl, rfl, rfl, by decide +kernel, rfl, by decide +kernel, by decide +kernel⟩
theorem fd_sorting_cost (T : TT fa fn K mg) : FdOk P w K mg base 1 (cad K "sorting_cost") 3 c_sorting_cost := by
  obtain ⟨fd, F⟩ := T.def_ 19
  refine FdOk.of (N := ["runs", "first", "game", "last"]) (ps := ["runs", "first", "game"]) (k := 0) (Pw := []) (s := b_sorting_cost) F sc_sorting_cost (fun _ _ _ _ _ _ us hl => match us, hl with | [_, _, _], _ => rfl) (fun cdv A outer s0 H E hr => ?_)
  have hN := sc_sorting_cost.nd
  have tk := takes_of (X := cxOf (L2.CX P w) P w K mg base ["runs", "first", "game", "last"] "sorting_cost" (defScope (topS 28)) (cad K "sorting_cost") cdv A outer s0 H E) (E := E) rfl rfl rfl rfl
  exact (dss_cons (ds_set hN rfl (.inl rfl) (by decide) (de_bin o_mod (de_bin o_sub (de_bin o_add' (de_var (pv 1)) (de_var (pv 0))) de_int) de_int)) (dss_one (ds_match (de_var (pv 2)) (dcs_str (dss_one (ds_ret (de_bin o_add' (de_bin o_sub (de_var (pv 0)) de_int) (de_int1 rfl (T.free 5) (da_cons (de_cmp (o_eq hr.units) (de_var (pv 3)) de_int (by rfl)) da_nil))))) (dcs_str (dss_one (ds_ret (de_bin o_add' (de_bin o_sub (de_var (pv 0)) de_int) (de_int1 rfl (T.free 5) (da_cons (de_and (de_cmp (o_eq hr.units) (de_var (pv 0)) de_int (by rfl)) (de_one (de_cmp (o_eq hr.units) (de_var (pv 1)) de_int (by rfl)))) da_nil))))) (dcs_any (dss_one (ds_ret (de_bin o_fdiv (de_bin o_add' (de_bin o_add' (de_bin o_sub (de_var (pv 0)) de_int) (de_var (pv 1))) (de_int1 rfl (T.free 5) (da_cons (de_cmp (o_eq hr.units) (de_var (pv 3)) de_int (by rfl)) da_nil))) de_int)))))))))
/-! #### plain_cost -/
def b_plain_cost : DSt := (sSeq (sIf (dBin gLt (dVar 0) (dC (.int 2))) (sRet (dC (.int 0))) sNil) (sSeq (sIf (dBin gEq (dVar 3) (dC (.str "sorted"))) (sRet (dCall c_sorting_cost [.e (dVar 0), .e (dVar 1), .e (dVar 2)])) sNil) (sRet (dIf (dBin gEq (dVar 2) (dC (.str "parts"))) (dBin gFdiv (dBin gSub (dVar 0) (dC (.int 1))) (dC (.int 2))) (dBin gSub (dVar 0) (dC (.int 2)))))))
def c_plain_cost : DEn := callC 4 [] b_plain_cost
theorem sc_plain_cost : FnScope ["runs", "first", "game", "goal"] ["runs", "first", "game", "goal"] (defScope (topS 29)) := ⟨rfl, rfl, rfl, by decide +kernel, rfl, by decide +kernel, by decide +kernel⟩
theorem fd_plain_cost (T : TT fa fn K mg) : FdOk P w K mg base 2 (cad K "plain_cost") 4 c_plain_cost := by
  obtain ⟨fd, F⟩ := T.def_ 20
  refine FdOk.of (N := ["runs", "first", "game", "goal"]) (ps := ["runs", "first", "game", "goal"]) (k := 1) (Pw := []) (s := b_plain_cost) F sc_plain_cost (fun _ _ _ _ _ _ us hl => match us, hl with | [_, _, _, _], _ => rfl) (fun cdv A outer s0 H E hr => ?_)
  have hN := sc_plain_cost.nd
  have tk := takes_of (X := cxOf (L2.CX P w) P w K mg base ["runs", "first", "game", "goal"] "plain_cost" (defScope (topS 29)) (cad K "plain_cost") cdv A outer s0 H E) (E := E) rfl rfl rfl rfl
  exact (dss_cons (ds_if (dt_cmp o_lt (de_var (pv 0)) de_int (by rfl)) (dss_one (ds_ret de_int)) dss_nil) (dss_cons (ds_if (dt_cmp (o_eq hr.units) (de_var (pv 3)) de_str (by rfl)) (dss_one (ds_ret (de_call (fd_sorting_cost T) (hr.mono (by decide)) rfl (T.glo 38) tk (da_cons (de_var (pv 0)) (da_cons (de_var (pv 1)) (da_cons (de_var (pv 2)) da_nil))) rfl))) dss_nil) (dss_one (ds_ret (de_if (dt_cmp (o_eq hr.units) (de_var (pv 2)) de_str (by rfl)) (de_bin o_fdiv (de_bin o_sub (de_var (pv 0)) de_int) de_int) (de_bin o_sub (de_var (pv 0)) de_int))))))
/-! #### count_rows_with_cost -/
def el_count_rows_with_cost_0 : DEn := (dVar 6)
def ct_count_rows_with_cost_0 : DEn := (dBin gEq (dCall c_plain_cost [.e (dBin gIx (dVar 6) (dC (.int 0))), .e (dBin gIx (dVar 6) (dC (.int 1))), .e (dVar 1), .e (dVar 2)]) (dVar 3))
def el_count_rows_with_cost_1 : DEn := (dBin gIx (dVar 4) (dVar 7))
def b_count_rows_with_cost : DSt := (sSeq (sDrop (dCall c_check_length [.e (dVar 0), .e (dC (.int 3000))])) (sSeq (sDrop (dCall c_check_count [.e (dVar 3)])) (sSeq (sDrop (dCall c_check_words [.e (dVar 1), .e (dVar 2)])) (sSeq (sSet 4 (dCall c_divisions [.e (dVar 0), .e (dVar 0)])) (sSeq (sSet 5 (dLc (srcOf gLstI (dCall c_kinds_of_length [.e (dVar 0)])) [6] (.name 6) ct_count_rows_with_cost_0 el_count_rows_with_cost_0)) (sRet (dAll gSum [.e (dLc (srcOf gLstI (dVar 5)) [7, 8] (.tup (.cons (.name 7) (.cons (.name 8) .nil))) (dC (.bl true)) el_count_rows_with_cost_1)])))))))
def c_count_rows_with_cost : DEn := callC 9 [] b_count_rows_with_cost
theorem sc_count_rows_with_cost : FnScope ["length", "game", "goal", "number", "numbers", "found", "kind", "runs", "first"] ["length", "game", "goal", "number"] (defScope (topS 38)) := ⟨rfl, rfl, rfl, by decide +kernel, rfl, by decide +kernel, by decide +kernel⟩
theorem fd_count_rows_with_cost (T : TT fa fn K mg) : FdOk P w K mg base 3 (cad K "count_rows_with_cost") 4 c_count_rows_with_cost := by
  obtain ⟨fd, F⟩ := T.def_ 21
  refine FdOk.of (N := ["length", "game", "goal", "number", "numbers", "found", "kind", "runs", "first"]) (ps := ["length", "game", "goal", "number"]) (k := 2) (Pw := []) (s := b_count_rows_with_cost) F sc_count_rows_with_cost (fun _ _ _ _ _ _ us hl => match us, hl with | [_, _, _, _], _ => rfl) (fun cdv A outer s0 H E hr => ?_)
  have hN := sc_count_rows_with_cost.nd
  have tk := takes_of (X := cxOf (L2.CX P w) P w K mg base ["length", "game", "goal", "number", "numbers", "found", "kind", "runs", "first"] "count_rows_with_cost" (defScope (topS 38)) (cad K "count_rows_with_cost") cdv A outer s0 H E) (E := E) rfl rfl rfl rfl
  exact (dss_cons (ds_expr (de_call (fd_check_length T) (hr.mono (by decide)) rfl (T.glo 20) tk (da_cons (de_var (pv 0)) (da_cons (de_globI rfl (T.int 14)) da_nil)) rfl)) (dss_cons (ds_expr (de_call (fd_check_count T) (hr.mono (by decide)) rfl (T.glo 22) tk (da_cons (de_var (pv 3)) da_nil) rfl)) (dss_cons (ds_expr (de_call (fd_check_words T) (hr.mono (by decide)) rfl (T.glo 36) tk (da_cons (de_var (pv 1)) (da_cons (de_var (pv 2)) da_nil)) rfl)) (dss_cons (ds_set hN rfl (.inr rfl) (by decide) (de_call (fd_divisions T) (hr.mono (by decide)) rfl (T.glo 24) tk (da_cons (de_var (pv 0)) (da_cons (de_var (pv 0)) da_nil)) rfl)) (dss_cons (ds_setLc (own := [("kind", 6)]) rfl hN rfl rfl (by decide) (sw_true rfl rfl rfl (by decide +kernel)) (di_list (de_call (fd_kinds_of_length T) (hr.mono (by decide)) rfl (T.glo 37) tk (da_cons (de_var (pv 0)) da_nil) rfl)) (blkOk_by (own := [("kind", 6)]) (N := ["length", "game", "goal", "number", "numbers", "found", "kind", "runs", "first"]) (sc := defScope (topS 38)) (by decide +kernel)) (fun _ _ _ _ _ => (dg_name (pg_name hN rfl (.inl rfl)))) (fun _ _ _ _ _ => (pts_test (dt_cmp (o_eq hr.units) (de_call (fd_plain_cost T) (hr.mono (by decide)) rfl (T.glo 39) takes0 (da_cons (de_ix i_ix (de_var (pv 6)) de_int (fun _ _ => rfl)) (da_cons (de_ix i_ix (de_var (pv 6)) de_int (fun _ _ => rfl)) (da_cons (de_var (pv 1)) (da_cons (de_var (pv 2)) da_nil)))) rfl) (de_var (pv 3)) (by rfl)))) (fun _ _ _ _ _ => (de_var (pv 6))) (by decide)) (dss_one (ds_ret (de_sum rfl rfl (T.free 40) (da_cons (de_lc (own := [("runs", 7), ("first", 8)]) rfl hN (di_list (de_var (pv 5))) (blkOk_by (own := [("runs", 7), ("first", 8)]) (N := ["length", "game", "goal", "number", "numbers", "found", "kind", "runs", "first"]) (sc := defScope (topS 38)) (by decide +kernel)) (fun _ _ _ _ _ => (dg_tup rfl (dgs_cons (dg_name (pg_name hN rfl (.inl rfl))) (dgs_cons (dg_name (pg_name hN rfl (.inl rfl))) dgs_nil)))) (fun _ _ _ _ _ => pts_yes) (fun _ _ _ _ _ => (de_ix i_ix (de_var (pv 4)) (de_var (pv 7)) (fun _ _ => rfl))) (by decide)) da_nil)))))))))
/-! #### total_cost -/
def el_total_cost_0 : DEn := (dBin gMul (dBin gIx (dVar 3) (dVar 4)) (dCall c_plain_cost [.e (dVar 4), .e (dVar 5), .e (dVar 1), .e (dVar 2)]))
def b_total_cost : DSt := (sSeq (sDrop (dCall c_check_length [.e (dVar 0), .e (dC (.int 3000))])) (sSeq (sDrop (dCall c_check_words [.e (dVar 1), .e (dVar 2)])) (sSeq (sSet 3 (dCall c_divisions [.e (dVar 0), .e (dVar 0)])) (sRet (dAll gSum [.e (dLc (srcOf gLstI (dCall c_kinds_of_length [.e (dVar 0)])) [4, 5] (.tup (.cons (.name 4) (.cons (.name 5) .nil))) (dC (.bl true)) el_total_cost_0)])))))
def c_total_cost : DEn := callC 6 [] b_total_cost
theorem sc_total_cost : FnScope ["length", "game", "goal", "numbers", "runs", "first"] ["length", "game", "goal"] (defScope (topS 43)) := ⟨rfl, rfl, rfl, by decide +kernel, rfl, by decide +kernel, by decide +kernel⟩
theorem fd_total_cost (T : TT fa fn K mg) : FdOk P w K mg base 3 (cad K "total_cost") 3 c_total_cost := by
  obtain ⟨fd, F⟩ := T.def_ 22
  refine FdOk.of (N := ["length", "game", "goal", "numbers", "runs", "first"]) (ps := ["length", "game", "goal"]) (k := 2) (Pw := []) (s := b_total_cost) F sc_total_cost (fun _ _ _ _ _ _ us hl => match us, hl with | [_, _, _], _ => rfl) (fun cdv A outer s0 H E hr => ?_)
  have hN := sc_total_cost.nd
  have tk := takes_of (X := cxOf (L2.CX P w) P w K mg base ["length", "game", "goal", "numbers", "runs", "first"] "total_cost" (defScope (topS 43)) (cad K "total_cost") cdv A outer s0 H E) (E := E) rfl rfl rfl rfl
  exact (dss_cons (ds_expr (de_call (fd_check_length T) (hr.mono (by decide)) rfl (T.glo 20) tk (da_cons (de_var (pv 0)) (da_cons (de_globI rfl (T.int 14)) da_nil)) rfl)) (dss_cons (ds_expr (de_call (fd_check_words T) (hr.mono (by decide)) rfl (T.glo 36) tk (da_cons (de_var (pv 1)) (da_cons (de_var (pv 2)) da_nil)) rfl)) (dss_cons (ds_set hN rfl (.inr rfl) (by decide) (de_call (fd_divisions T) (hr.mono (by decide)) rfl (T.glo 24) tk (da_cons (de_var (pv 0)) (da_cons (de_var (pv 0)) da_nil)) rfl)) (dss_one (ds_ret (de_sum rfl rfl (T.free 40) (da_cons (de_lc (own := [("runs", 4), ("first", 5)]) rfl hN (di_list (de_call (fd_kinds_of_length T) (hr.mono (by decide)) rfl (T.glo 37) tk (da_cons (de_var (pv 0)) da_nil) rfl)) (blkOk_by (own := [("runs", 4), ("first", 5)]) (N := ["length", "game", "goal", "numbers", "runs", "first"]) (sc := defScope (topS 43)) (by decide +kernel)) (fun _ _ _ _ _ => (dg_tup rfl (dgs_cons (dg_name (pg_name hN rfl (.inl rfl))) (dgs_cons (dg_name (pg_name hN rfl (.inl rfl))) dgs_nil)))) (fun _ _ _ _ _ => pts_yes) (fun _ _ _ _ _ => (de_bin o_mul' (de_ix i_ix (de_var (pv 3)) (de_var (pv 4)) (fun _ _ => rfl)) (de_call (fd_plain_cost T) (hr.mono (by decide)) rfl (T.glo 39) takes0 (da_cons (de_var (pv 4)) (da_cons (de_var (pv 5)) (da_cons (de_var (pv 1)) (da_cons (de_var (pv 2)) da_nil)))) rfl))) (by decide)) da_nil)))))))
/-! #### mean_cost -/
def bd_mean_cost_0 : DSt := (sPar [3, 4] [(dBin gFdiv (dVar 3) (dC (.int 2))), (dBin gFdiv (dVar 4) (dC (.int 2)))])
def wt_mean_cost_0 : DEn := (dAnd (dBin gEq (dBin gMod (dVar 3) (dC (.int 2))) (dC (.int 0))) (dBin gGt (dVar 4) (dC (.int 1))))
def b_mean_cost : DSt := (sSeq (sPar [3, 4] [(dCall c_total_cost [.e (dVar 0), .e (dVar 1), .e (dVar 2)]), (dBin gShl (dC (.int 1)) (dVar 0))]) (sSeq (runWhile wt_mean_cost_0 bd_mean_cost_0 10000) (sRet (dAll DL.gTup [.e (dVar 3), .e (dVar 4)]))))
def c_mean_cost : DEn := callC 5 [] b_mean_cost
theorem sc_mean_cost : FnScope ["length", "game", "goal", "total", "number"] ["length", "game", "goal"] (defScope (topS 44)) := ⟨rfl, rfl, rfl, by decide +kernel, rfl, by decide +kernel, by decide +kernel⟩
theorem fd_mean_cost (T : TT fa fn K mg) : FdOk P w K mg base 4 (cad K "mean_cost") 3 c_mean_cost := by
  obtain ⟨fd, F⟩ := T.def_ 23
  refine FdOk.of (N := ["length", "game", "goal", "total", "number"]) (ps := ["length", "game", "goal"]) (k := 3) (Pw := []) (s := b_mean_cost) F sc_mean_cost (fun _ _ _ _ _ _ us hl => match us, hl with | [_, _, _], _ => rfl) (fun cdv A outer s0 H E hr => ?_)
  have hN := sc_mean_cost.nd
  have tk := takes_of (X := cxOf (L2.CX P w) P w K mg base ["length", "game", "goal", "total", "number"] "mean_cost" (defScope (topS 44)) (cad K "mean_cost") cdv A outer s0 H E) (E := E) rfl rfl rfl rfl
  exact (dss_cons (ds_parR2 rfl hN rfl rfl (by decide) (by decide) (by decide) rfl rfl (drs_cons (de_call (fd_total_cost T) (hr.mono (by decide)) rfl (T.glo 42) tk (da_cons (de_var (pv 0)) (da_cons (de_var (pv 1)) (da_cons (de_var (pv 2)) da_nil))) rfl) (drs_cons (de_bin o_shl de_int (de_var (pv 0))) drs_nil)) (by rfl)) (dss_cons (ds_while 10000 (passes_of rfl) (dt_bool (dw_and (dt_cmp (o_eq hr.units) (de_bin o_mod (de_var (pv 3)) de_int) de_int (by rfl)) (dw_and1 (dt_cmp o_gt (de_var (pv 4)) de_int (by rfl))))) (dss_one (ds_parR2 rfl hN rfl rfl (by decide) (by decide) (by decide) rfl rfl (drs_cons (de_bin o_fdiv (de_var (pv 3)) de_int) (drs_cons (de_bin o_fdiv (de_var (pv 4)) de_int) drs_nil)) (by rfl)))) (dss_one (ds_ret (de_tup (da_cons (de_var (pv 3)) (da_cons (de_var (pv 4)) da_nil)))))))
/-! #### _law_mean -/
def bd_l_mean_0 : DSt := (sIf (dAnd (dBin gEq (dBin gMod (dVar 0) (dC (.int 2))) (dC (.int 0))) (dBin gEq (dBin gMod (dVar 1) (dC (.int 2))) (dC (.int 0)))) (sPar [0, 1] [(dBin gFdiv (dVar 0) (dC (.int 2))), (dBin gFdiv (dVar 1) (dC (.int 2)))]) sNil)
def b_l_mean : DSt := (sSeq (sFor (srcR1 [.e (dC (.int 10))]) (.name 2) bd_l_mean_0) (sRet (dAll DL.gTup [.e (dVar 0), .e (dVar 1)])))
def c_l_mean : DEn := callC 3 [] b_l_mean
theorem sc_l_mean : FnScope ["_law_total", "_law_number", "_law_turn_here"] ["_law_total", "_law_number"] (defScope (topS 55)) := ⟨rfl, rfl, rfl, by decide +kernel, rfl, by decide +kernel, by decide +kernel⟩
theorem fd_l_mean (T : TT fa fn K mg) : FdOk P w K mg base 1 (cad K "_law_mean") 2 c_l_mean := by
  obtain ⟨fd, F⟩ := T.def_ 24
  refine FdOk.of (N := ["_law_total", "_law_number", "_law_turn_here"]) (ps := ["_law_total", "_law_number"]) (k := 0) (Pw := []) (s := b_l_mean) F sc_l_mean (fun _ _ _ _ _ _ us hl => match us, hl with | [_, _], _ => rfl) (fun cdv A outer s0 H E hr => ?_)
  have hN := sc_l_mean.nd
  have tk := takes_of (X := cxOf (L2.CX P w) P w K mg base ["_law_total", "_law_number", "_law_turn_here"] "_law_mean" (defScope (topS 55)) (cad K "_law_mean") cdv A outer s0 H E) (E := E) rfl rfl rfl rfl
  exact (dss_cons (ds_for (passes_of rfl) rfl (di_range1 rfl (T.free 4) (da_cons de_int da_nil)) (dg_name (pg_name hN rfl (.inl rfl))) (dss_one (ds_if (dt_bool (dw_and (dt_cmp (o_eq hr.units) (de_bin o_mod (de_var (pv 0)) de_int) de_int (by rfl)) (dw_and1 (dt_cmp (o_eq hr.units) (de_bin o_mod (de_var (pv 1)) de_int) de_int (by rfl))))) (dss_one (ds_parR2 rfl hN rfl rfl (by decide) (by decide) (by decide) rfl rfl (drs_cons (de_bin o_fdiv (de_var (pv 0)) de_int) (drs_cons (de_bin o_fdiv (de_var (pv 1)) de_int) drs_nil)) (by rfl))) dss_nil)) (by decide)) (dss_one (ds_ret (de_tup (da_cons (de_var (pv 0)) (da_cons (de_var (pv 1)) da_nil))))))
/-! #### worst_kind -/
def el_worst_kind_0 : DEn := (dAll DL.gTup [.e (dCall c_plain_cost [.e (dVar 4), .e (dVar 5), .e (dVar 1), .e (dVar 2)]), .e (dVar 4), .e (dVar 5)])
def b_worst_kind : DSt := (sSeq (sSet 3 (dLc (srcOf gLstI (dCall c_kinds_of_length [.e (dVar 0)])) [4, 5] (.tup (.cons (.name 4) (.cons (.name 5) .nil))) (dC (.bl true)) el_worst_kind_0)) (sRet (dAll (gBestT gtI) [.e (dVar 3)])))
def c_worst_kind : DEn := callC 6 [] b_worst_kind
theorem sc_worst_kind : FnScope ["length", "game", "goal", "found", "runs", "first"] ["length", "game", "goal"] (defScope (topS 40)) := ⟨rfl, rfl, rfl, by decide +kernel, rfl, by decide +kernel, by decide +kernel⟩
theorem fd_worst_kind (T : TT fa fn K mg) : FdOk P w K mg base 3 (cad K "worst_kind") 3 c_worst_kind := by
  obtain ⟨fd, F⟩ := T.def_ 25
  refine FdOk.of (N := ["length", "game", "goal", "found", "runs", "first"]) (ps := ["length", "game", "goal"]) (k := 2) (Pw := []) (s := b_worst_kind) F sc_worst_kind (fun _ _ _ _ _ _ us hl => match us, hl with | [_, _, _], _ => rfl) (fun cdv A outer s0 H E hr => ?_)
  have hN := sc_worst_kind.nd
  have tk := takes_of (X := cxOf (L2.CX P w) P w K mg base ["length", "game", "goal", "found", "runs", "first"] "worst_kind" (defScope (topS 40)) (cad K "worst_kind") cdv A outer s0 H E) (E := E) rfl rfl rfl rfl
  exact (dss_cons (ds_setLc (own := [("runs", 4), ("first", 5)]) rfl hN rfl rfl (by decide) (sw_true rfl rfl rfl (by decide +kernel)) (di_list (de_call (fd_kinds_of_length T) (hr.mono (by decide)) rfl (T.glo 37) tk (da_cons (de_var (pv 0)) da_nil) rfl)) (blkOk_by (own := [("runs", 4), ("first", 5)]) (N := ["length", "game", "goal", "found", "runs", "first"]) (sc := defScope (topS 40)) (by decide +kernel)) (fun _ _ _ _ _ => (dg_tup rfl (dgs_cons (dg_name (pg_name hN rfl (.inl rfl))) (dgs_cons (dg_name (pg_name hN rfl (.inl rfl))) dgs_nil)))) (fun _ _ _ _ _ => pts_yes) (fun _ _ _ _ _ => (de_tup (da_cons (de_call (fd_plain_cost T) (hr.mono (by decide)) rfl (T.glo 39) takes0 (da_cons (de_var (pv 4)) (da_cons (de_var (pv 5)) (da_cons (de_var (pv 1)) (da_cons (de_var (pv 2)) da_nil)))) rfl) (da_cons (de_var (pv 4)) (da_cons (de_var (pv 5)) da_nil))))) (by decide)) (dss_one (ds_ret (de_callBD (c_maxT rfl (hr.mono (by decide : 1 ≤ _))) rfl (T.free 3) rfl (da_cons (de_var (pv 3)) da_nil)))))
/-! #### is_colour -/
def b_is_colour : DSt := (sRet (dCall c_is_number [.e (dVar 0), .e (dC (.int 0)), .e (dC (.int 1))]))
def c_is_colour : DEn := callC 1 [] b_is_colour
theorem sc_is_colour : FnScope ["candidate"] ["candidate"] (defScope (topS 12)) := ⟨rfl, rfl, rfl, by decide +kernel, rfl, by decide +kernel, by decide +kernel⟩
theorem fd_is_colour (T : TT fa fn K mg) : FdOk P w K mg base 2 (cad K "is_colour") 1 c_is_colour := by
  obtain ⟨fd, F⟩ := T.def_ 26
  refine FdOk.of (N := ["candidate"]) (ps := ["candidate"]) (k := 1) (Pw := []) (s := b_is_colour) F sc_is_colour (fun _ _ _ _ _ _ us hl => match us, hl with | [_], _ => rfl) (fun cdv A outer s0 H E hr => ?_)
  have hN := sc_is_colour.nd
  have tk := takes_of (X := cxOf (L2.CX P w) P w K mg base ["candidate"] "is_colour" (defScope (topS 12)) (cad K "is_colour") cdv A outer s0 H E) (E := E) rfl rfl rfl rfl
  exact (dss_one (ds_ret (de_call (fd_is_number T) (hr.mono (by decide)) rfl (T.glo 17) tk (da_cons (de_var (pv 0)) (da_cons de_int (da_cons de_int da_nil))) rfl)))
/-! #### Row.__init__ -/
def el_Row_init_0 : DEn := (dCall c_is_number [.e (dVar 3), .e (dC (.int 1)), .e (dC (.int 1000000000000000000000000000000))])
def b_Row_init : DSt := (sSeq (sIf (dOr (dNot (dCall c_is_colour [.e (dVar 1)])) (dOr (dNot (dUn (gIsi kitTab (.ty "list")) (dVar 2))) (dBin gGt (dAll gLen [.e (dVar 2)]) (dC (.int 2000))))) (sRaise "InvalidRow") sNil) (sSeq (sIf (dOr (dNot (dAll gAll [.e (dLc (srcOf gLstI (dVar 2)) [3] (.name 3) (dC (.bl true)) el_Row_init_0)])) (dBin gGt (dAll gSum [.e (dVar 2)]) (dC (.int 1000000000000000000000000000000)))) (sRaise "InvalidRow") sNil) (sSeq (sIf (dAnd (dBin gEq (dVar 2) (dAll DL.gLst [])) (dBin gEq (dVar 1) (dC (.int 1)))) (sRaise "InvalidRow") sNil) (sSeq (sFld 0 "Row" "colour" (dVar 1)) (sFld 0 "Row" "sizes" (dAll gList [.e (dVar 2)]))))))
def c_Row_init : DEn := callC 4 [0] b_Row_init
theorem sc_Row_init : FnScope ["self", "first", "lengths", "length"] ["self", "first", "lengths"] (defScope (inCls (topS 18) 0)) := ⟨rfl, rfl, rfl, by decide +kernel, rfl, by decide +kernel, by decide +kernel⟩
theorem fd_Row_init (T : TT fa fn K mg) : FdOk P w K mg base 3 (ma K (cad K "Row") (Str.ofString "__init__")) 3 c_Row_init := by
  obtain ⟨fd, F⟩ := T.def_ 27
  refine FdOk.of (N := ["self", "first", "lengths", "length"]) (ps := ["self", "first", "lengths"]) (k := 2) (Pw := [0]) (s := b_Row_init) F sc_Row_init (fun _ _ _ _ _ _ us hl => match us, hl with | [_, _, _], _ => rfl) (fun cdv A outer s0 H E hr => ?_)
  have hN := sc_Row_init.nd
  have tk := takes_of (X := cxOf (L2.CX P w) P w K mg base ["self", "first", "lengths", "length"] "Row.__init__" (defScope (inCls (topS 18) 0)) (ma K (cad K "Row") (Str.ofString "__init__")) cdv A outer s0 H E) (E := E) rfl rfl rfl rfl
  exact (dss_cons (ds_if (dt_bool (dw_or (dt_not (dt_of (de_call (fd_is_colour T) (hr.mono (by decide)) rfl (T.glo 48) tk (da_cons (de_var (pv 1)) da_nil) rfl))) (dw_or (dt_not (dt_of (de_isiT (kitOk T) rfl (T.free 13) (by decide +kernel) rfl (T.free 15) (de_var (pv 2))))) (dw_or1 (dt_cmp o_gt (de_len rfl (T.free 1) (da_cons (de_var (pv 2)) da_nil)) (de_globI rfl (T.int 49)) (by rfl)))))) (dss_one (ds_raise (f_exc (T.fact 50) PySem.F.excBase_ValueError) rfl tk rfl (T.glo 51))) dss_nil) (dss_cons (ds_if (dt_bool (dw_or (dt_not (dt_of (de_all rfl rfl (T.free 53) (da_cons (de_lc (own := [("length", 3)]) rfl hN (di_list (de_var (pv 2))) (blkOk_by (own := [("length", 3)]) (N := ["self", "first", "lengths", "length"]) (sc := defScope (inCls (topS 18) 0)) (by decide +kernel)) (fun _ _ _ _ _ => (dg_name (pg_name hN rfl (.inl rfl)))) (fun _ _ _ _ _ => pts_yes) (fun _ _ _ _ _ => (de_call (fd_is_number T) (hr.mono (by decide)) rfl (T.glo 17) takes0 (da_cons (de_var (pv 3)) (da_cons de_int (da_cons (de_globI rfl (T.int 52)) da_nil))) rfl)) (by decide)) da_nil)))) (dw_or1 (dt_cmp o_gt (de_sum rfl rfl (T.free 40) (da_cons (de_var (pv 2)) da_nil)) (de_globI rfl (T.int 52)) (by rfl))))) (dss_one (ds_raise (f_exc (T.fact 50) PySem.F.excBase_ValueError) rfl tk rfl (T.glo 51))) dss_nil) (dss_cons (ds_if (dt_bool (dw_and (dt_cmp (o_eq hr.units) (de_var (pv 2)) (de_lst da_nil) (by rfl)) (dw_and1 (dt_cmp (o_eq hr.units) (de_var (pv 1)) de_int (by rfl))))) (dss_one (ds_raise (f_exc (T.fact 50) PySem.F.excBase_ValueError) rfl tk rfl (T.glo 51))) dss_nil) (dss_cons (ds_fld (f_fld (T.fact 54) (T.fact 55)) (pv 0) (de_var (pv 1))) (dss_one (ds_fld (f_fld (T.fact 54) (T.fact 56)) (pv 0) (de_list1 rfl (T.free 13) (da_cons (de_var (pv 2)) da_nil))))))))
/-! #### worst_row -/
def el_worst_row_0 : DEn := (dC (.int 1))
def b_worst_row : DSt := (sSeq (sDrop (dCall c_check_length [.e (dVar 0), .e (dC (.int 2000))])) (sSeq (sDrop (dCall c_check_words [.e (dVar 1), .e (dVar 2)])) (sSeq (sUnp (.tup (.cons (.name 3) (.cons (.name 4) .nil))) (dSlT (dCall c_worst_kind [.e (dVar 0), .e (dVar 1), .e (dVar 2)]) (.e (dC (.int 1))) .no)) (sRet (dIf (dBin gGt (dVar 3) (dC (.int 0))) (dMake "Row" c_Row_init [.e (dVar 4), .e (dAllS DL.gLst [(false, (dBin gSub (dBin gAdd (dVar 0) (dC (.int 1))) (dVar 3))), (true, (dLc (srcR1 [.e (dBin gSub (dVar 3) (dC (.int 1)))]) [5] (.name 5) (dC (.bl true)) el_worst_row_0))])]) (dMake "Row" c_Row_init [.e (dC (.int 0)), .e (dAll DL.gLst [])]))))))
def c_worst_row : DEn := callC 6 [] b_worst_row
theorem sc_worst_row : FnScope ["length", "game", "goal", "runs", "first", "number"] ["length", "game", "goal"] (defScope (topS 42)) := ⟨rfl, rfl, rfl, by decide +kernel, rfl, by decide +kernel, by decide +kernel⟩
theorem fd_worst_row (T : TT fa fn K mg) : FdOk P w K mg base 5 (cad K "worst_row") 3 c_worst_row := by
  obtain ⟨fd, F⟩ := T.def_ 28
  refine FdOk.of (N := ["length", "game", "goal", "runs", "first", "number"]) (ps := ["length", "game", "goal"]) (k := 4) (Pw := []) (s := b_worst_row) F sc_worst_row (fun _ _ _ _ _ _ us hl => match us, hl with | [_, _, _], _ => rfl) (fun cdv A outer s0 H E hr => ?_)
  have hN := sc_worst_row.nd
  have tk := takes_of (X := cxOf (L2.CX P w) P w K mg base ["length", "game", "goal", "runs", "first", "number"] "worst_row" (defScope (topS 42)) (cad K "worst_row") cdv A outer s0 H E) (E := E) rfl rfl rfl rfl
  exact (dss_cons (ds_expr (de_call (fd_check_length T) (hr.mono (by decide)) rfl (T.glo 20) tk (da_cons (de_var (pv 0)) (da_cons (de_globI rfl (T.int 46)) da_nil)) rfl)) (dss_cons (ds_expr (de_call (fd_check_words T) (hr.mono (by decide)) rfl (T.glo 36) tk (da_cons (de_var (pv 1)) (da_cons (de_var (pv 2)) da_nil)) rfl)) (dss_cons (ds_unp (de_slT (de_call (fd_worst_kind T) (hr.mono (by decide)) rfl (T.glo 47) tk (da_cons (de_var (pv 0)) (da_cons (de_var (pv 1)) (da_cons (de_var (pv 2)) da_nil))) rfl) (do_some de_int) do_none) (dg_tup rfl (dgs_cons (dg_name (pg_name hN rfl (.inl rfl))) (dgs_cons (dg_name (pg_name hN rfl (.inl rfl))) dgs_nil))) (by decide)) (dss_one (ds_ret (de_if (dt_cmp o_gt (de_var (pv 3)) de_int (by rfl)) (de_make (f_mkr (T.fact 57)) (fd_Row_init T) (hr.mono (by decide)) rfl (T.glo 58) tk (da_cons (de_var (pv 4)) (da_cons (de_lstS (das_cons (de_bin o_sub (de_bin o_add' (de_var (pv 0)) de_int) (de_var (pv 3))) (das_star (de_lc (own := [("number", 5)]) rfl hN (di_range1 rfl (T.free 4) (da_cons (de_bin o_sub (de_var (pv 3)) de_int) da_nil)) (blkOk_by (own := [("number", 5)]) (N := ["length", "game", "goal", "runs", "first", "number"]) (sc := defScope (topS 42)) (by decide +kernel)) (fun _ _ _ _ _ => (dg_name (pg_name hN rfl (.inl rfl)))) (fun _ _ _ _ _ => pts_yes) (fun _ _ _ _ _ => de_int) (by decide)) das_nil))) da_nil)) rfl) (de_make (f_mkr (T.fact 57)) (fd_Row_init T) (hr.mono (by decide)) rfl (T.glo 58) tk (da_cons de_int (da_cons (de_lst da_nil) da_nil)) rfl)))))))
/-! #### Row.length -/
def b_Row_p_length : DSt := (sRet (dAll gSum [.e (dUn (gFld "Row" "sizes") (dVar 0))]))
def c_Row_p_length : DEn := callC 1 [] b_Row_p_length
theorem sc_Row_p_length : FnScope ["self"] ["self"] (defScope (inCls (topS 18) 5)) := ⟨rfl, rfl, rfl, by decide +kernel, rfl, by decide +kernel, by decide +kernel⟩
theorem fd_Row_p_length (T : TT fa fn K mg) : FdOk P w K mg base 1 (gAd K "Row" (Str.ofString "length")) 1 c_Row_p_length := by
  obtain ⟨fd, F⟩ := T.def_ 29
  refine FdOk.of (N := ["self"]) (ps := ["self"]) (k := 0) (Pw := []) (s := b_Row_p_length) F sc_Row_p_length (fun _ _ _ _ _ _ us hl => match us, hl with | [_], _ => rfl) (fun cdv A outer s0 H E hr => ?_)
  have hN := sc_Row_p_length.nd
  have tk := takes_of (X := cxOf (L2.CX P w) P w K mg base ["self"] "Row.length" (defScope (inCls (topS 18) 5)) (gAd K "Row" (Str.ofString "length")) cdv A outer s0 H E) (E := E) rfl rfl rfl rfl
  exact (dss_one (ds_ret (de_sum rfl rfl (T.free 40) (da_cons (de_fld (f_fld (T.fact 54) (T.fact 56)) (de_var (pv 0))) da_nil))))
/-! #### Row.first -/
def b_Row_p_first : DSt := (sRet (dUn (gFld "Row" "colour") (dVar 0)))
def c_Row_p_first : DEn := callC 1 [] b_Row_p_first
theorem sc_Row_p_first : FnScope ["self"] ["self"] (defScope (inCls (topS 18) 1)) := ⟨rfl, rfl, rfl, by decide +kernel, rfl, by decide +kernel, by decide +kernel⟩
theorem fd_Row_p_first (T : TT fa fn K mg) : FdOk P w K mg base 1 (gAd K "Row" (Str.ofString "first")) 1 c_Row_p_first := by
  obtain ⟨fd, F⟩ := T.def_ 30
  refine FdOk.of (N := ["self"]) (ps := ["self"]) (k := 0) (Pw := []) (s := b_Row_p_first) F sc_Row_p_first (fun _ _ _ _ _ _ us hl => match us, hl with | [_], _ => rfl) (fun cdv A outer s0 H E hr => ?_)
  have hN := sc_Row_p_first.nd
  have tk := takes_of (X := cxOf (L2.CX P w) P w K mg base ["self"] "Row.first" (defScope (inCls (topS 18) 1)) (gAd K "Row" (Str.ofString "first")) cdv A outer s0 H E) (E := E) rfl rfl rfl rfl
  exact (dss_one (ds_ret (de_fld (f_fld (T.fact 54) (T.fact 55)) (de_var (pv 0)))))
/-! #### Row.lengths -/
def b_Row_p_lengths : DSt := (sRet (dAll gList [.e (dUn (gFld "Row" "sizes") (dVar 0))]))
def c_Row_p_lengths : DEn := callC 1 [] b_Row_p_lengths
theorem sc_Row_p_lengths : FnScope ["self"] ["self"] (defScope (inCls (topS 18) 3)) := ⟨rfl, rfl, rfl, by decide +kernel, rfl, by decide +kernel, by decide +kernel⟩
theorem fd_Row_p_lengths (T : TT fa fn K mg) : FdOk P w K mg base 1 (gAd K "Row" (Str.ofString "lengths")) 1 c_Row_p_lengths := by
  obtain ⟨fd, F⟩ := T.def_ 31
  refine FdOk.of (N := ["self"]) (ps := ["self"]) (k := 0) (Pw := []) (s := b_Row_p_lengths) F sc_Row_p_lengths (fun _ _ _ _ _ _ us hl => match us, hl with | [_], _ => rfl) (fun cdv A outer s0 H E hr => ?_)
  have hN := sc_Row_p_lengths.nd
  have tk := takes_of (X := cxOf (L2.CX P w) P w K mg base ["self"] "Row.lengths" (defScope (inCls (topS 18) 3)) (gAd K "Row" (Str.ofString "lengths")) cdv A outer s0 H E) (E := E) rfl rfl rfl rfl
  exact (dss_one (ds_ret (de_list1 rfl (T.free 13) (da_cons (de_fld (f_fld (T.fact 54) (T.fact 56)) (de_var (pv 0))) da_nil))))
/-! #### text_of -/
def bd_text_of_0 : DSt := (sSeq (sDrop (dAppend 1 (dBin gMulS (dAll gStr [.e (dVar 2)]) (dVar 3)))) (sSet 2 (dBin gSub (dC (.int 1)) (dVar 2))))
def b_text_of : DSt := (sSeq (sIf (dBin gGt (dProp "Row" c_Row_p_length (dVar 0)) (dC (.int 2000))) sBad sNil) (sSeq (sPar [1, 2] [(dAll DL.gLst []), (dProp "Row" c_Row_p_first (dVar 0))]) (sSeq (sFor (srcOf gLstI (dProp "Row" c_Row_p_lengths (dVar 0))) (.name 3) bd_text_of_0) (sRet (dJoin (dC (.str "")) (dVar 1))))))
def c_text_of : DEn := callC 4 [] b_text_of
theorem sc_text_of : FnScope ["row", "parts", "colour", "size"] ["row"] (defScope (topS 19)) := ⟨rfl, rfl, rfl, by decide +kernel, rfl, by decide +kernel, by decide +kernel⟩
theorem fd_text_of (T : TT fa fn K mg) : FdOk P w K mg base 3 (cad K "text_of") 1 c_text_of := by
  obtain ⟨fd, F⟩ := T.def_ 32
  refine FdOk.of (N := ["row", "parts", "colour", "size"]) (ps := ["row"]) (k := 2) (Pw := []) (s := b_text_of) F sc_text_of (fun _ _ _ _ _ _ us hl => match us, hl with | [_], _ => rfl) (fun cdv A outer s0 H E hr => ?_)
  have hN := sc_text_of.nd
  have tk := takes_of (X := cxOf (L2.CX P w) P w K mg base ["row", "parts", "colour", "size"] "text_of" (defScope (topS 19)) (cad K "text_of") cdv A outer s0 H E) (E := E) rfl rfl rfl rfl
  exact (dss_cons (ds_if (dt_cmp o_gt (de_prop (f_prop (T.fact 54) (T.fact 60) (fd_Row_p_length T)) (hr.mono (by decide)) (de_var (pv 0))) (de_globI rfl (T.int 61)) (by rfl)) (dss_one ds_bad) dss_nil) (dss_cons (ds_parR2 rfl hN rfl rfl (by decide) (by decide) (by decide) rfl rfl (drs_cons (de_lst da_nil) (drs_cons (de_prop (f_prop (T.fact 54) (T.fact 62) (fd_Row_p_first T)) (hr.mono (by decide)) (de_var (pv 0))) drs_nil)) (by rfl)) (dss_cons (ds_for (passes_of rfl) rfl (di_list (de_prop (f_prop (T.fact 54) (T.fact 63) (fd_Row_p_lengths T)) (hr.mono (by decide)) (de_var (pv 0)))) (dg_name (pg_name hN rfl (.inl rfl))) (dss_cons (ds_expr (de_append (pv 1) (de_bin o_mulS (de_str1 rfl (T.free 27) (da_cons (de_var (pv 2)) da_nil)) (de_var (pv 3))))) (dss_one (ds_set hN rfl (.inl rfl) (by decide) (de_bin o_sub de_int (de_var (pv 2)))))) (by decide)) (dss_one (ds_ret (de_join de_str (de_var (pv 1))))))))
/-! #### greatest_cost -/
def b_greatest_cost : DSt := (sSeq (sDrop (dCall c_check_length [.e (dVar 0), .e (dC (.int 2000))])) (sSeq (sDrop (dCall c_check_words [.e (dVar 1), .e (dVar 2)])) (sRet (dBin gIx (dCall c_worst_kind [.e (dVar 0), .e (dVar 1), .e (dVar 2)]) (dC (.int 0))))))
def c_greatest_cost : DEn := callC 3 [] b_greatest_cost
theorem sc_greatest_cost : FnScope ["length", "game", "goal"] ["length", "game", "goal"] (defScope (topS 41)) := ⟨rfl, rfl, rfl, by decide +kernel, rfl, by decide +kernel, by decide +kernel⟩
theorem fd_greatest_cost (T : TT fa fn K mg) : FdOk P w K mg base 4 (cad K "greatest_cost") 3 c_greatest_cost := by
  obtain ⟨fd, F⟩ := T.def_ 33
  refine FdOk.of (N := ["length", "game", "goal"]) (ps := ["length", "game", "goal"]) (k := 3) (Pw := []) (s := b_greatest_cost) F sc_greatest_cost (fun _ _ _ _ _ _ us hl => match us, hl with | [_, _, _], _ => rfl) (fun cdv A outer s0 H E hr => ?_)
  have hN := sc_greatest_cost.nd
  have tk := takes_of (X := cxOf (L2.CX P w) P w K mg base ["length", "game", "goal"] "greatest_cost" (defScope (topS 41)) (cad K "greatest_cost") cdv A outer s0 H E) (E := E) rfl rfl rfl rfl
  exact (dss_cons (ds_expr (de_call (fd_check_length T) (hr.mono (by decide)) rfl (T.glo 20) tk (da_cons (de_var (pv 0)) (da_cons (de_globI rfl (T.int 46)) da_nil)) rfl)) (dss_cons (ds_expr (de_call (fd_check_words T) (hr.mono (by decide)) rfl (T.glo 36) tk (da_cons (de_var (pv 1)) (da_cons (de_var (pv 2)) da_nil)) rfl)) (dss_one (ds_ret (de_ix i_ix (de_call (fd_worst_kind T) (hr.mono (by decide)) rfl (T.glo 47) tk (da_cons (de_var (pv 0)) (da_cons (de_var (pv 1)) (da_cons (de_var (pv 2)) da_nil))) rfl) de_int (fun _ _ => rfl))))))
/-! #### count_mixed_rows -/
def bd_count_mixed_rows_0 : DSt := (sDrop (dCall c_check_count [.e (dVar 5)]))
def bd_count_mixed_rows_1 : DSt := (sIf (dBin gEq (dCall c_plain_cost [.e (dVar 9), .e (dVar 10), .e (dVar 2), .e (dVar 3)]) (dVar 4)) (sAug 8 (fun i j => i + j) (dBin gMul (dBin gIx (dVar 6) (dBin gFdiv (dBin gSub (dBin gAdd (dVar 9) (dC (.int 1))) (dVar 10)) (dC (.int 2)))) (dBin gIx (dVar 7) (dBin gFdiv (dBin gAdd (dVar 9) (dVar 10)) (dC (.int 2)))))) sNil)
def b_count_mixed_rows : DSt := (sSeq (sFor (srcOf gTupI (dAll DL.gTup [.e (dVar 0), .e (dVar 1), .e (dVar 4)])) (.name 5) bd_count_mixed_rows_0) (sSeq (sDrop (dCall c_check_length [.e (dBin gAdd (dVar 0) (dVar 1)), .e (dC (.int 3000))])) (sSeq (sDrop (dCall c_check_words [.e (dVar 2), .e (dVar 3)])) (sSeq (sPar [6, 7] [(dCall c_divisions [.e (dVar 0), .e (dBin gAdd (dVar 0) (dVar 1))]), (dCall c_divisions [.e (dVar 1), .e (dBin gAdd (dVar 0) (dVar 1))])]) (sSeq (sSet 8 (dC (.int 0))) (sSeq (sFor (srcOf gLstI (dCall c_kinds_of_length [.e (dBin gAdd (dVar 0) (dVar 1))])) (.tup (.cons (.name 9) (.cons (.name 10) .nil))) bd_count_mixed_rows_1) (sRet (dVar 8))))))))
def c_count_mixed_rows : DEn := callC 11 [] b_count_mixed_rows
theorem sc_count_mixed_rows : FnScope ["zeros", "ones", "game", "goal", "number", "candidate", "low", "high", "result", "runs", "first"] ["zeros", "ones", "game", "goal", "number"] (defScope (topS 39)) := ⟨rfl, rfl, rfl, by decide +kernel, rfl, by decide +kernel, by decide +kernel⟩
theorem fd_count_mixed_rows (T : TT fa fn K mg) : FdOk P w K mg base 3 (cad K "count_mixed_rows") 5 c_count_mixed_rows := by
  obtain ⟨fd, F⟩ := T.def_ 34
  refine FdOk.of (N := ["zeros", "ones", "game", "goal", "number", "candidate", "low", "high", "result", "runs", "first"]) (ps := ["zeros", "ones", "game", "goal", "number"]) (k := 2) (Pw := []) (s := b_count_mixed_rows) F sc_count_mixed_rows (fun _ _ _ _ _ _ us hl => match us, hl with | [_, _, _, _, _], _ => rfl) (fun cdv A outer s0 H E hr => ?_)
  have hN := sc_count_mixed_rows.nd
  have tk := takes_of (X := cxOf (L2.CX P w) P w K mg base ["zeros", "ones", "game", "goal", "number", "candidate", "low", "high", "result", "runs", "first"] "count_mixed_rows" (defScope (topS 39)) (cad K "count_mixed_rows") cdv A outer s0 H E) (E := E) rfl rfl rfl rfl
  exact (dss_cons (ds_for (passes_of rfl) rfl (di_tup (de_tup (da_cons (de_var (pv 0)) (da_cons (de_var (pv 1)) (da_cons (de_var (pv 4)) da_nil))))) (dg_name (pg_name hN rfl (.inl rfl))) (dss_one (ds_expr (de_call (fd_check_count T) (hr.mono (by decide)) rfl (T.glo 22) tk (da_cons (de_var (pv 5)) da_nil) rfl))) (by decide)) (dss_cons (ds_expr (de_call (fd_check_length T) (hr.mono (by decide)) rfl (T.glo 20) tk (da_cons (de_bin o_add' (de_var (pv 0)) (de_var (pv 1))) (da_cons (de_globI rfl (T.int 14)) da_nil)) rfl)) (dss_cons (ds_expr (de_call (fd_check_words T) (hr.mono (by decide)) rfl (T.glo 36) tk (da_cons (de_var (pv 2)) (da_cons (de_var (pv 3)) da_nil)) rfl)) (dss_cons (ds_parR2 rfl hN rfl rfl (by decide) (by decide) (by decide) rfl rfl (drs_cons (de_call (fd_divisions T) (hr.mono (by decide)) rfl (T.glo 24) tk (da_cons (de_var (pv 0)) (da_cons (de_bin o_add' (de_var (pv 0)) (de_var (pv 1))) da_nil)) rfl) (drs_cons (de_call (fd_divisions T) (hr.mono (by decide)) rfl (T.glo 24) tk (da_cons (de_var (pv 1)) (da_cons (de_bin o_add' (de_var (pv 0)) (de_var (pv 1))) da_nil)) rfl) drs_nil)) (by rfl)) (dss_cons (ds_set hN rfl (.inl rfl) (by decide) de_int) (dss_cons (ds_for (passes_of rfl) rfl (di_list (de_call (fd_kinds_of_length T) (hr.mono (by decide)) rfl (T.glo 37) tk (da_cons (de_bin o_add' (de_var (pv 0)) (de_var (pv 1))) da_nil) rfl)) (dg_tup rfl (dgs_cons (dg_name (pg_name hN rfl (.inl rfl))) (dgs_cons (dg_name (pg_name hN rfl (.inl rfl))) dgs_nil))) (dss_one (ds_if (dt_cmp (o_eq hr.units) (de_call (fd_plain_cost T) (hr.mono (by decide)) rfl (T.glo 39) tk (da_cons (de_var (pv 9)) (da_cons (de_var (pv 10)) (da_cons (de_var (pv 2)) (da_cons (de_var (pv 3)) da_nil)))) rfl) (de_var (pv 4)) (by rfl)) (dss_one (ds_aug hN rfl (.inl rfl) (by decide) (de_bin o_mul' (de_ix i_ix (de_var (pv 6)) (de_bin o_fdiv (de_bin o_sub (de_bin o_add' (de_var (pv 9)) de_int) (de_var (pv 10))) de_int) (fun _ _ => rfl)) (de_ix i_ix (de_var (pv 7)) (de_bin o_fdiv (de_bin o_add' (de_var (pv 9)) (de_var (pv 10))) de_int) (fun _ _ => rfl))) ip_add)) dss_nil)) (by decide)) (dss_one (ds_ret (de_var (pv 8))))))))))
/-! #### _law_mixed_right -/
def el_l_mixed_right_0 : DEn := (dVar 7)
def ct_l_mixed_right_0 : DEn := (dAnd (dBin gEq (dMetS (fun a => gCountS (.str a)) (dVar 7) (dC (.str "1"))) (dVar 4)) (dBin gEq (dBin gDAt (dVarL 0) (dVar 7)) (dVar 5)))
def bd_l_mixed_right_0 : DSt := (sSeq (sSet 6 (dLc (srcOf gDicK (dVarL 0)) [7] (.name 7) ct_l_mixed_right_0 el_l_mixed_right_0)) (sIf (dBin gNe (dCall c_count_mixed_rows [.e (dBin gSub (dVar 1) (dVar 4)), .e (dVar 4), .e (dVar 2), .e (dVar 3), .e (dVar 5)]) (dAll gLen [.e (dVar 6)])) (sRet (dC (.bl false))) sNil))
def bd_l_mixed_right_1 : DSt := (sFor (srcR1 [.e (dBin gAdd (dVar 1) (dC (.int 2)))]) (.name 5) bd_l_mixed_right_0)
def b_l_mixed_right : DSt := (sSeq (sFor (srcR1 [.e (dBin gAdd (dVar 1) (dC (.int 1)))]) (.name 4) bd_l_mixed_right_1) (sRet (dC (.bl true))))
def c_l_mixed_right : DEn := callC 8 [] b_l_mixed_right
theorem sc_l_mixed_right : FnScope ["_law_known", "_law_length", "_law_game", "_law_goal", "_law_ones", "_law_number", "_law_some", "_law_word"] ["_law_known", "_law_length", "_law_game", "_law_goal"] (defScope (topS 56)) := ⟨rfl, rfl, rfl, by decide +kernel, rfl, by decide +kernel, by decide +kernel⟩
theorem fd_l_mixed_right (T : TT fa fn K mg) : FdOk P w K mg base 4 (cad K "_law_mixed_right") 4 c_l_mixed_right := by
  obtain ⟨fd, F⟩ := T.def_ 35
  refine FdOk.of (N := ["_law_known", "_law_length", "_law_game", "_law_goal", "_law_ones", "_law_number", "_law_some", "_law_word"]) (ps := ["_law_known", "_law_length", "_law_game", "_law_goal"]) (k := 3) (Pw := []) (s := b_l_mixed_right) F sc_l_mixed_right (fun _ _ _ _ _ _ us hl => match us, hl with | [_, _, _, _], _ => rfl) (fun cdv A outer s0 H E hr => ?_)
  have hN := sc_l_mixed_right.nd
  have tk := takes_of (X := cxOf (L2.CX P w) P w K mg base ["_law_known", "_law_length", "_law_game", "_law_goal", "_law_ones", "_law_number", "_law_some", "_law_word"] "_law_mixed_right" (defScope (topS 56)) (cad K "_law_mixed_right") cdv A outer s0 H E) (E := E) rfl rfl rfl rfl
  exact (dss_cons (ds_for (passes_of rfl) rfl (di_range1 rfl (T.free 4) (da_cons (de_bin o_add' (de_var (pv 1)) de_int) da_nil)) (dg_name (pg_name hN rfl (.inr rfl))) (dss_one (ds_for (passes_of rfl) rfl (di_range1 rfl (T.free 4) (da_cons (de_bin o_add' (de_var (pv 1)) de_int) da_nil)) (dg_name (pg_name hN rfl (.inr rfl))) (dss_cons (ds_setLc (own := [("_law_word", 7)]) rfl hN rfl rfl (by decide) (sw_true rfl rfl rfl (by decide +kernel)) (di_dkeys (de_varL (pv 0))) (blkOk_by (own := [("_law_word", 7)]) (N := ["_law_known", "_law_length", "_law_game", "_law_goal", "_law_ones", "_law_number", "_law_some", "_law_word"]) (sc := defScope (topS 56)) (by decide +kernel)) (fun _ _ _ _ _ => (dg_name (pg_name hN rfl (.inl rfl)))) (fun _ _ _ _ _ => (pts_test (dt_bool (dw_and (dt_cmp (o_eq hr.units) (de_countS (de_var (pv 7)) de_str) (de_var (pv 4)) (by rfl)) (dw_and1 (dt_cmp (o_eq hr.units) (de_dget (hu1 (room65 hr)) (de_varL (pv 0)) (de_var (pv 7))) (de_var (pv 5)) (by rfl))))))) (fun _ _ _ _ _ => (de_var (pv 7))) (by decide)) (dss_one (ds_if (dt_cmp (o_ne hr.units) (de_call (fd_count_mixed_rows T) (hr.mono (by decide)) rfl (T.glo 66) tk (da_cons (de_bin o_sub (de_var (pv 1)) (de_var (pv 4))) (da_cons (de_var (pv 4)) (da_cons (de_var (pv 2)) (da_cons (de_var (pv 3)) (da_cons (de_var (pv 5)) da_nil))))) rfl) (de_len rfl (T.free 1) (da_cons (de_var (pv 6)) da_nil)) (by rfl)) (dss_one (ds_ret de_bl)) dss_nil))) (by decide))) (by decide)) (dss_one (ds_ret de_bl)))
/-! #### _law_right -/
def el_l_right_0 : DEn := (dVar 8)
def ct_l_right_0 : DEn := (dBin gEq (dCall c_l_runs [.e (dVar 8)]) (dVar 6))
def bd_l_right_0 : DSt := (sSeq (sIf (dBin gNe (dCall c_count_rows [.e (dVar 0), .e (dVar 6)]) (dAll gLen [.e (dLc (srcOf gDicK (dVarL 3)) [8] (.name 8) ct_l_right_0 el_l_right_0)])) (sRet (dC (.bl false))) sNil) (sIf (dBin gNe (dCall c_count_rows_with_cost [.e (dVar 0), .e (dVar 1), .e (dVar 2), .e (dVar 6)]) (dMetL gCountL (dVar 4) (dVar 6))) (sRet (dC (.bl false))) sNil))
def b_l_right : DSt := (sSeq (sSet 3 (dCall c_l_costs [.e (dVar 0), .e (dVar 1), .e (dVar 2)])) (sSeq (sPar [4, 5] [(dUn gListV (dVarL 3)), (dAll (gBestI maxL) [.e (dUn gListV (dVarL 3))])]) (sSeq (sFor (srcR1 [.e (dBin gAdd (dVar 0) (dC (.int 3)))]) (.name 6) bd_l_right_0) (sSeq (sIf (dBin gNe (dCall c_total_cost [.e (dVar 0), .e (dVar 1), .e (dVar 2)]) (dAll gSum [.e (dVar 4)])) (sRet (dC (.bl false))) sNil) (sSeq (sIf (dBin gNe (dAll gRepr2 [.e (dCall c_mean_cost [.e (dVar 0), .e (dVar 1), .e (dVar 2)])]) (dAll gRepr2 [.e (dCall c_l_mean [.e (dAll gSum [.e (dVar 4)]), .e (dAll gLen [.e (dVar 4)])])])) (sRet (dC (.bl false))) sNil) (sSeq (sSet 7 (dCall c_text_of [.e (dCall c_worst_row [.e (dVar 0), .e (dVar 1), .e (dVar 2)])])) (sSeq (sIf (dOr (dBin gNe (dCall c_greatest_cost [.e (dVar 0), .e (dVar 1), .e (dVar 2)]) (dVar 5)) (dOr (dBin gNe (dAll gLen [.e (dVar 7)]) (dVar 0)) (dBin gNe (dBin gDAt (dVarL 3) (dVar 7)) (dVar 5)))) (sRet (dC (.bl false))) sNil) (sRet (dCall c_l_mixed_right [.e (dVarL 3), .e (dVar 0), .e (dVar 1), .e (dVar 2)])))))))))
def c_l_right : DEn := callC 9 [] b_l_right
theorem sc_l_right : FnScope ["_law_length", "_law_game", "_law_goal", "_law_known", "_law_told", "_law_most", "_law_number", "_law_worst", "_law_word"] ["_law_length", "_law_game", "_law_goal"] (defScope (topS 57)) := ⟨rfl, rfl, rfl, by decide +kernel, rfl, by decide +kernel, by decide +kernel⟩
theorem fd_l_right (T : TT fa fn K mg) : FdG P w K mg base 6 (cad K "_law_right") 3 c_l_right := by
  obtain ⟨fd, F⟩ := T.def_ 36
  refine FdG.of (N := ["_law_length", "_law_game", "_law_goal", "_law_known", "_law_told", "_law_most", "_law_number", "_law_worst", "_law_word"]) (ps := ["_law_length", "_law_game", "_law_goal"]) (k := 5) (Pw := []) (s := b_l_right) F sc_l_right (fun _ _ _ _ _ _ us hl => match us, hl with | [_, _, _], _ => rfl) (fun cdv A outer s0 H E hgd hr => ?_)
  have hN := sc_l_right.nd
  have tk := takes_of (X := cxOf (L2.CX P w) P w K mg base ["_law_length", "_law_game", "_law_goal", "_law_known", "_law_told", "_law_most", "_law_number", "_law_worst", "_law_word"] "_law_right" (defScope (topS 57)) (cad K "_law_right") cdv A outer s0 H E) (E := E) rfl rfl rfl rfl
  exact (dss_cons (ds_set hN rfl (.inl rfl) (by decide) (de_call (fd_l_costs T) (hr.mono (by decide)) rfl (T.glo 12) tk (da_cons (de_var (pv 0)) (da_cons (de_var (pv 1)) (da_cons (de_var (pv 2)) da_nil))) rfl)) (dss_cons (ds_parR2 rfl hN rfl rfl (by decide) (by decide) (by decide) rfl rfl (drs_cons (de_listVals rfl (de_varL (pv 3)) rfl (T.free 13)) (drs_cons (de_callBD (c_maxI rfl) rfl (T.free 3) rfl (da_cons (de_listVals rfl (de_varL (pv 3)) rfl (T.free 13)) da_nil)) drs_nil)) (by rfl)) (dss_cons (ds_for (passes_of rfl) rfl (di_range1 rfl (T.free 4) (da_cons (de_bin o_add' (de_var (pv 0)) de_int) da_nil)) (dg_name (pg_name hN rfl (.inr rfl))) (dss_cons (ds_if (dt_cmp (o_ne hr.units) (de_call (fd_count_rows T) (hr.mono (by decide)) rfl (T.glo 25) tk (da_cons (de_var (pv 0)) (da_cons (de_var (pv 6)) da_nil)) rfl) (de_len rfl (T.free 1) (da_cons (de_lc (own := [("_law_word", 8)]) rfl hN (di_dkeys (de_varL (pv 3))) (blkOk_by (own := [("_law_word", 8)]) (N := ["_law_length", "_law_game", "_law_goal", "_law_known", "_law_told", "_law_most", "_law_number", "_law_worst", "_law_word"]) (sc := defScope (topS 57)) (by decide +kernel)) (fun _ _ _ _ _ => (dg_name (pg_name hN rfl (.inl rfl)))) (fun _ _ _ _ _ => (pts_test (dt_cmp (o_eq hr.units) (de_call (fd_l_runs T) (hr.mono (by decide)) rfl (T.glo 26) takes0 (da_cons (de_var (pv 8)) da_nil) rfl) (de_var (pv 6)) (by rfl)))) (fun _ _ _ _ _ => (de_var (pv 8))) (by decide)) da_nil)) (by rfl)) (dss_one (ds_ret de_bl)) dss_nil) (dss_one (ds_if (dt_cmp (o_ne hr.units) (de_call (fd_count_rows_with_cost T) (hr.mono (by decide)) rfl (T.glo 41) tk (da_cons (de_var (pv 0)) (da_cons (de_var (pv 1)) (da_cons (de_var (pv 2)) (da_cons (de_var (pv 6)) da_nil)))) rfl) (de_countL (de_var (pv 4)) (de_var (pv 6))) (by rfl)) (dss_one (ds_ret de_bl)) dss_nil))) (by decide)) (dss_cons (ds_if (dt_cmp (o_ne hr.units) (de_call (fd_total_cost T) (hr.mono (by decide)) rfl (T.glo 42) tk (da_cons (de_var (pv 0)) (da_cons (de_var (pv 1)) (da_cons (de_var (pv 2)) da_nil))) rfl) (de_sum rfl rfl (T.free 40) (da_cons (de_var (pv 4)) da_nil)) (by rfl)) (dss_one (ds_ret de_bl)) dss_nil) (dss_cons (ds_if (dt_cmp (o_ne hr.units) (de_repr2 hgd (room4 hr) rfl (T.free 44) (da_cons (de_call (fd_mean_cost T) (hr.mono (by decide)) rfl (T.glo 43) tk (da_cons (de_var (pv 0)) (da_cons (de_var (pv 1)) (da_cons (de_var (pv 2)) da_nil))) rfl) da_nil)) (de_repr2 hgd (room4 hr) rfl (T.free 44) (da_cons (de_call (fd_l_mean T) (hr.mono (by decide)) rfl (T.glo 45) tk (da_cons (de_sum rfl rfl (T.free 40) (da_cons (de_var (pv 4)) da_nil)) (da_cons (de_len rfl (T.free 1) (da_cons (de_var (pv 4)) da_nil)) da_nil)) rfl) da_nil)) (by rfl)) (dss_one (ds_ret de_bl)) dss_nil) (dss_cons (ds_set hN rfl (.inl rfl) (by decide) (de_call (fd_text_of T) (hr.mono (by decide)) rfl (T.glo 64) tk (da_cons (de_call (fd_worst_row T) (hr.mono (by decide)) rfl (T.glo 59) tk (da_cons (de_var (pv 0)) (da_cons (de_var (pv 1)) (da_cons (de_var (pv 2)) da_nil))) rfl) da_nil) rfl)) (dss_cons (ds_if (dt_bool (dw_or (dt_cmp (o_ne hr.units) (de_call (fd_greatest_cost T) (hr.mono (by decide)) rfl (T.glo 65) tk (da_cons (de_var (pv 0)) (da_cons (de_var (pv 1)) (da_cons (de_var (pv 2)) da_nil))) rfl) (de_var (pv 5)) (by rfl)) (dw_or (dt_cmp (o_ne hr.units) (de_len rfl (T.free 1) (da_cons (de_var (pv 7)) da_nil)) (de_var (pv 0)) (by rfl)) (dw_or1 (dt_cmp (o_ne hr.units) (de_dget (hu1 (room65 hr)) (de_varL (pv 3)) (de_var (pv 7))) (de_var (pv 5)) (by rfl)))))) (dss_one (ds_ret de_bl)) dss_nil) (dss_one (ds_ret (de_call (fd_l_mixed_right T) (hr.mono (by decide)) rfl (T.glo 67) tk (da_cons (de_varL (pv 3)) (da_cons (de_var (pv 0)) (da_cons (de_var (pv 1)) (da_cons (de_var (pv 2)) da_nil)))) rfl))))))))))
/-! #### law -/
def bd_law_0 : DSt := (sIf (dNot (dCall c_l_right [.e (dVar 3), .e (dVar 5), .e (dVar 4)])) (sRet (dC (.bl false))) sNil)
def bd_law_1 : DSt := (sSeq (sSet 2 (dCall c_l_stream [.e (dVar 0), .e (dVar 1)])) (sSeq (sPar [3, 4] [(dCall c_l_draw [.l 2, .e (dC (.int 8))]), (dBin gIx (dAll DL.gLst [.e (dC (.str "grouped")), .e (dC (.str "sorted"))]) (dCall c_l_draw [.l 2, .e (dC (.int 2))]))]) (sFor (srcOf gLstI (dAll DL.gLst [.e (dC (.str "front")), .e (dC (.str "ends")), .e (dC (.str "parts"))])) (.name 5) bd_law_0)))
def b_law : DSt := (sSeq (sFor (srcR1 [.e (dAll gMax2 [.e (dC (.int 1)), .e (dAll gMin2 [.e (dC (.int 4)), .e (dAll gLen [.e (dVar 0)])])])]) (.name 1) bd_law_1) (sRet (dC (.bl true))))
def c_law : DEn := callC 6 [] b_law
theorem sc_law : FnScope ["_law_script", "_law_k", "_law_stream_here", "_law_length", "_law_goal", "_law_game"] ["_law_script"] (defScope (topS 58)) := ⟨rfl, rfl, rfl, by decide +kernel, rfl, by decide +kernel, by decide +kernel⟩
theorem law_ok (T : TT fa fn K mg) : LawG P w K mg 7 (cad K "law") c_law := by
  obtain ⟨fd, F⟩ := T.def_ 37
  intro base
  refine callsG_of (N := ["_law_script", "_law_k", "_law_stream_here", "_law_length", "_law_goal", "_law_game"]) (ps := ["_law_script"]) (k := 6) (Pw := []) (s := b_law) F sc_law (fun _ _ _ _ _ _ us hl => match us, hl with | [_], _ => rfl) (fun cdv A outer s0 H E hgd hr => ?_)
  have hN := sc_law.nd
  have tk := takes_of (X := cxOf (L2.CX P w) P w K mg base ["_law_script", "_law_k", "_law_stream_here", "_law_length", "_law_goal", "_law_game"] "law" (defScope (topS 58)) (cad K "law") cdv A outer s0 H E) (E := E) rfl rfl rfl rfl
  exact (dss_cons (ds_for (passes_of rfl) rfl (di_range1 rfl (T.free 4) (da_cons (de_max2 rfl rfl (T.free 3) (da_cons de_int (da_cons (de_min2 rfl rfl (T.free 2) (da_cons de_int (da_cons (de_len rfl (T.free 1) (da_cons (de_var (pv 0)) da_nil)) da_nil))) da_nil))) da_nil)) (dg_name (pg_name hN rfl (.inl rfl))) (dss_cons (ds_set hN rfl (.inl rfl) (by decide) (de_call (fd_l_stream T) (hr.mono (by decide)) rfl (T.glo 6) tk (da_cons (de_var (pv 0)) (da_cons (de_var (pv 1)) da_nil)) rfl)) (dss_cons (ds_parR2 rfl hN rfl rfl (by decide) (by decide) (by decide) rfl rfl (drs_cons (de_call (fd_l_draw T) (hr.mono (by decide)) rfl (T.glo 7) tk (da_lend 2 (pv 2) (da_cons de_int da_nil)) rfl) (drs_cons (de_ix i_ix (de_lst (da_cons de_str (da_cons de_str da_nil))) (de_call (fd_l_draw T) (hr.mono (by decide)) rfl (T.glo 7) tk (da_lend 2 (pv 2) (da_cons de_int da_nil)) rfl) (fun _ _ => rfl)) drs_nil)) (by rfl)) (dss_one (ds_for (passes_of rfl) rfl (di_list (de_lst (da_cons de_str (da_cons de_str (da_cons de_str da_nil))))) (dg_name (pg_name hN rfl (.inl rfl))) (dss_one (ds_if (dt_not (dt_of (de_callG (fd_l_right T) hgd (hr.mono (by decide)) rfl (T.glo 68) tk (da_cons (de_var (pv 3)) (da_cons (de_var (pv 5)) (da_cons (de_var (pv 4)) da_nil))) rfl))) (dss_one (ds_ret de_bl)) dss_nil)) (by decide))))) (by decide)) (dss_one (ds_ret de_bl)))
end
end G


set_option maxRecDepth 100000
set_option maxHeartbeats 4000000
/-! Qdraw: numbers, streams, draws. -/
namespace G
open PySem PySem.Spec L2 DL
theorem small_log {n : Nat} (h : n < 2 ^ 200) : n.log2 < 9000 := by
  rcases Nat.eq_zero_or_pos n with rfl | hp
  · decide
  · have := (Nat.log2_lt (n := n) (k := 200) (by omega)).mpr h
    omega
/-! ### streams -/
abbrev stM (a b : Int) : M := .lst [.int a, .int b]
def St (m : M) : Prop := ∃ a b : Int, m = stM a b
theorem v_draw {m : M} (hm : St m) {n : Nat} (h : 0 < n) (lg0 : n.log2 < 9000) : ∃ (r : Nat) (m' : M), r < n ∧ St m' ∧ c_l_draw [some (.own m), some (.val (.int n))] = .ok (.val (.int r)) [some (.own m'), some (.val (.int n))] := by
  obtain ⟨a, b, rfl⟩ := hm
  have hn : (0 : Int) < (n : Int) := by omega
  have lg : (n : Int).natAbs.log2 < 9000 := by rw [show (n : Int).natAbs = n from Int.natAbs_natCast n]; exact lg0
  by_cases ha : 0 < a
  · refine ⟨(a % n).toNat, stM (a / n) b, ?_, ⟨_, _, rfl⟩, ?_⟩
    · have := Int.emod_lt_of_pos a hn
      have := Int.emod_nonneg a (by omega : (n : Int) ≠ 0)
      omega
    · have e1 : ((a % (n : Int)).toNat : Int) = a % n := Int.toNat_of_nonneg (Int.emod_nonneg a (by omega))
      have m := gMod_int (i := a) hn
      have f := gFdiv_int (i := a) hn lg
      simp -implicitDefEqProofs [callC, ownsIn, backD, sRet, sSeq, sIf, sSet, sNil, sDrop, sRaise, dVar, dBin, dUn, dAnd, dOr, dNot, dIf, dAll, dCall, dMake, runArgs, gIsi, List.replicate, c_l_draw, b_l_draw, dIxO, atI, ixN, ha, m, f, DL.sSetIx, e1]
  · have k1 : gMul (.int b) (.int 69621) = .ok (.val (.int (b * 69621))) := gMul_int (by simp [mulOk])
    have k2 := gMod_int (i := b * 69621 + 7) (j := 2147483647) (by omega)
    have k6 := Int.emod_lt_of_pos (b * 69621 + 7) (show (0 : Int) < 2147483647 by omega)
    have k7 := Int.emod_nonneg (b * 69621 + 7) (show (2147483647 : Int) ≠ 0 by omega)
    generalize (b * 69621 + 7) % 2147483647 = c at *
    have k3 : gMul (.int c) (.int c) = .ok (.val (.int (c * c))) := gMul_int (by simp [mulOk]; omega)
    have k4 := gMod_int (i := c * c) (j := 2147483629) (by omega)
    generalize c * c % 2147483629 = d at *
    have k5 := gFdiv_int (i := d) (j := 32) (by omega) (by decide +kernel)
    have k8 := gMod_int (i := d / 32) hn
    refine ⟨(d / 32 % n).toNat, stM a c, ?_, ⟨_, _, rfl⟩, ?_⟩
    · have := Int.emod_lt_of_pos (d / 32) hn
      have := Int.emod_nonneg (d / 32) (by omega : (n : Int) ≠ 0)
      omega
    · have e1 : ((d / 32 % (n : Int)).toNat : Int) = d / 32 % n := Int.toNat_of_nonneg (Int.emod_nonneg _ (by omega))
      simp -implicitDefEqProofs [callC, ownsIn, backD, sRet, sSeq, sIf, sSet, sNil, sDrop, sRaise, dVar, dBin, dUn, dAnd, dOr, dNot, dIf, dAll, dCall, dMake, runArgs, gIsi, List.replicate, c_l_draw, b_l_draw, dIxO, atI, ixN, ha, k1, k2, k3, k4, k5, k8, DL.sSetIx, e1]
theorem at_draw {i : Nat} {ρ : Slots} {m : M} (hi : ρ[i]? = some (some (.own m))) (hm : St m) (n : Nat) {c : Int} (hc : c = n) (h : 0 < n) (h2 : n.log2 < 9000) : ∃ (r : Nat) (m' : M), r < n ∧ St m' ∧ callAt c_l_draw [.l i, .d (.int c)] ρ = .ok (.val (.int r)) (ρ.set i (some (.own m'))) := by
  subst hc
  obtain ⟨r, m', h3, h4, h5⟩ := v_draw hm h h2
  exact ⟨r, m', h3, h4, callAt_l1 hi h5⟩
/-! ### the script's stream -/
theorem ix_fix {ns : List Int} {k : Nat} (h : k < ns.length) : gIx (.fix (ns.map D.int)) (.int k) = .ok (.val (.int ns[k])) := by
  have h1 : (k : Int) < (ns.length : Int) := by omega
  simp [gIx, atI, ixN, h, List.getElem?_eq_getElem h]
def streamT : DSt := (sSeq (sSet 3 (dAll gMax2 [.e (dVar 2), .e (dBin gSub (dUn gNeg (dC (.int 1))) (dVar 2))])) (sSeq (sSet 4 (dBin gMod (dBin gMul (dBin gAdd (dBin gAdd (dBin gAdd (dBin gMod (dVar 3) (dC (.int 2147483629))) (dBin gMul (dBin gMul (dC (.int 7919)) (dVar 1)) (dVar 1))) (dBin gMul (dC (.int 31)) (dVar 1))) (dC (.int 17))) (dC (.int 48271))) (dC (.int 2147483647)))) (sRet (dAll DL.gLst [.e (dBin gMul (dVar 3) (dAll gInt [.e (dBin gGe (dVar 3) (dBin gPow (dC (.int 10)) (dC (.int 18))))])), .e (dVar 4)]))))
theorem b_stream : b_l_stream = sSeq (sSet 2 (dC (.int 0))) (sSeq (sIf (dBin gLt (dVar 1) (dAll gLen [.e (dVar 0)])) (sSet 2 (dBin gIx (dVar 0) (dVar 1))) sNil) streamT) := rfl
theorem v_stream {ns : List Int} {k : Nat} {c : Int} (hc : c = k) (hk : k < 1000) : ∃ m, St m ∧ callV c_l_stream [.fix (ns.map D.int), .int c] = .ok (.own m) := by
  subst hc
  have tail : ∀ cell : Int, ∃ a b : Int, streamT
      [some (.val (.fix (ns.map D.int))), some (.val (.int k)), some (.val (.int cell)), none, none] = .rt (.own (stM a b)) [some (.val (.fix (ns.map D.int))), some (.val (.int k)), some (.val (.int cell)), some (.val (.int (if -1 - cell > cell then -1 - cell else cell))), some (.val (.int b))] := by
    intro cell
    generalize hs : (if -1 - cell > cell then -1 - cell else cell) = size
    have m1 := gMod_int (i := size) (j := 2147483629) (by omega)
    have m2 : gMul (.int 7919) (.int k) = .ok (.val (.int (7919 * k))) := gMul_int (by simp [mulOk])
    have m3 : gMul (.int (7919 * k)) (.int k) = .ok (.val (.int (7919 * k * k))) := gMul_int (by simp [mulOk]; omega)
    have m4 : gMul (.int 31) (.int k) = .ok (.val (.int (31 * k))) := gMul_int (by simp [mulOk])
    have m5 : ∀ x : Int, gMul (.int x) (.int 48271) = .ok (.val (.int (x * 48271))) := fun x => gMul_int (by simp [mulOk])
    have m6 := fun x : Int => gMod_int (i := x) (j := 2147483647) (by omega)
    have pw : gPow (.int 10) (.int 18) = .ok (.val (.int (10 ^ 18))) := gPow_int (by decide +kernel)
    have m7 : ∀ b : Bool, gMul (.int size) (.int (if b = true then 1 else 0)) = .ok (.val (.int (size * (if b = true then 1 else 0)))) := fun b => gMul_int (by cases b <;> simp [mulOk])
    have hs' : (if cell < -1 - cell then -1 - cell else cell) = size := hs
    generalize (10 : Int) ^ 18 = big at *
    have m8 := m7 (decide (big ≤ size))
    refine ⟨size * (if decide (big ≤ size) = true then 1 else 0), (size % 2147483629 + 7919 * (k : Int) * k + 31 * k + 17) * 48271 % 2147483647, ?_⟩
    simp only [decide_eq_true_eq] at m8
    simp -implicitDefEqProofs [callC, ownsIn, backD, sRet, sSeq, sIf, sSet, sNil, sDrop, sRaise, dVar, dBin, dUn, dAnd, dOr, dNot, dIf, dAll, dCall, dMake, runArgs, gIsi, List.replicate, streamT, hs', m1, m2, m3, m4, m5, m6, m8, pw]
  unfold callV
  by_cases h : k < ns.length
  · obtain ⟨a, b, e⟩ := tail ns[k]
    refine ⟨_, ⟨a, b, rfl⟩, ?_⟩
    have hx := ix_fix h
    simp -implicitDefEqProofs [callC, ownsIn, backD, sRet, sSeq, sIf, sSet, sNil, sDrop, sRaise, dVar, dBin, dUn, dAnd, dOr, dNot, dIf, dAll, dCall, dMake, runArgs, gIsi, List.replicate, c_l_stream, b_stream, h, hx, e]
  · obtain ⟨a, b, e⟩ := tail 0
    refine ⟨_, ⟨a, b, rfl⟩, ?_⟩
    simp -implicitDefEqProofs [callC, ownsIn, backD, sRet, sSeq, sIf, sSet, sNil, sDrop, sRaise, dVar, dBin, dUn, dAnd, dOr, dNot, dIf, dAll, dCall, dMake, runArgs, gIsi, List.replicate, c_l_stream, b_stream, h, e]
/-- the turns of a law over its script's numbers -/
theorem turns (len most : Nat) : ∃ m : Nat, m ≤ max 1 most ∧ (if (if (len : Int) < (most : Int) then (len : Int) else (most : Int)) > 1 then (if (len : Int) < (most : Int) then (len : Int) else (most : Int)) else 1) = (m : Int) := by
  refine ⟨if (if len < most then len else most) > 1 then (if len < most then len else most) else 1, by split <;> split <;> omega, ?_⟩
  split <;> split <;> split <;> split <;> omega
end G

set_option maxRecDepth 100000
set_option maxHeartbeats 4000000
/-! Qbits: texts of zeros and ones: items, parts, equality. -/
namespace G
open PySem PySem.Spec L2 DL
theorem ix_bits {xs : List Nat} {k : Nat} {c : Int} (hc : c = k) (h : k < xs.length) (hl : xs.length ≤ 5000) : gIx (.str (bitsS xs)) (.int c) = .ok (.val (.str (bitsS [xs[k]]))) := by
  subst hc
  have h1 : (k : Int) < (xs.length : Int) := by omega
  have h2 : (bitsS xs).length ≤ sizeLine := by rw [bits_len]; simp [sizeLine]; omega
  have h3 : (xs.map (48 + ·))[k]? = some (48 + xs[k]) := by simp [h]
  simp only [gIx]
  rw [if_pos h2, bits_toList]
  simp [atI, ixN, h, bitsS]
theorem gEq_bits {a b : List Nat} : gEq (.str (bitsS a)) (.str (bitsS b)) = .ok (.val (.bl (decide (a = b)))) := by
  simp only [gEq]
  congr 3
  exact decide_eq_decide.mpr bits_inj
theorem gNe_bits {a b : List Nat} : gNe (.str (bitsS a)) (.str (bitsS b)) = .ok (.val (.bl (!decide (a = b)))) := by unfold gNe; rw [gEq_bits]; rfl
theorem add_bits {a b : List Nat} (h : a.length + b.length ≤ 100000) : gAdd (.str (bitsS a)) (.str (bitsS b)) = .ok (.val (.str (bitsS (a ++ b)))) := by
  have h2 : (bitsS a).length + (bitsS b).length ≤ sizeLine := by rw [bits_len, bits_len]; unfold sizeLine; omega
  rw [bits_app]
  simp [gAdd, gOr, gI, gAddS, h2]
theorem cut_bits {w : List Nat} {lo hi : Option Int} : cutS (bitsS w) lo hi = bitsS ((w.drop (HT.sIx w.length 0 lo)).take (HT.sIx w.length w.length hi - HT.sIx w.length 0 lo)) := by
  unfold cutS
  rw [bits_toList, bits_len]
  simp [bitsS, List.map_take, List.map_drop]
theorem rev_bits {w : List Nat} : revS (bitsS w) = bitsS w.reverse := by
  unfold revS
  rw [bits_toList]
  simp [bitsS]
theorem len_fits {w : List Nat} (h : w.length ≤ 1000) : (bitsS w).length ≤ sizeLine := by rw [bits_len]; unfold sizeLine; omega
theorem sl_lo {w : List Nat} {s : Nat} {s' : Int} (hs : s' = s) (h : s ≤ w.length) (hl : w.length ≤ 1000) : gSl (.str (bitsS w)) none (some s') = .ok (.val (.str (bitsS (w.take s)))) := by
  subst hs
  simp only [gSl]
  rw [if_pos (len_fits hl), cut_bits, HT.sIx_nat, HT.sIx_none, show min s w.length = s by omega, List.drop_zero, Nat.sub_zero]
theorem sl_hi {w : List Nat} {s : Nat} {s' : Int} (hs : s' = s) (h : s ≤ w.length) (hl : w.length ≤ 1000) : gSl (.str (bitsS w)) (some s') none = .ok (.val (.str (bitsS (w.drop s)))) := by
  subst hs
  simp only [gSl]
  rw [if_pos (len_fits hl), cut_bits, HT.sIx_nat, HT.sIx_none, show min s w.length = s by omega]
  congr 4
  exact List.take_of_length_le (by rw [List.length_drop]; omega)
theorem sl_mid {w : List Nat} {s e : Nat} {s' e' : Int} (hs : s' = s) (he : e' = e) (h1 : s ≤ e) (h : e ≤ w.length) (hl : w.length ≤ 1000) : gSl (.str (bitsS w)) (some s') (some e') = .ok (.val (.str (bitsS ((w.drop s).take (e - s))))) := by
  subst hs he
  simp only [gSl]
  rw [if_pos (len_fits hl), cut_bits, HT.sIx_nat, HT.sIx_nat, show min s w.length = s by omega, show min e w.length = e by omega]
end G

set_option maxRecDepth 100000
set_option maxHeartbeats 4000000
/-! Qnum: integers.py. -/
namespace G
open PySem PySem.Spec L2 DL
theorem v_is_number {i lo hi : Int} : callV c_is_number [.int i, .int lo, .int hi] = .ok (.val (.bl (decide (lo ≤ i) && decide (i ≤ hi)))) := by
  unfold callV
  simp -implicitDefEqProofs [callC, ownsIn, backD, sRet, sSeq, sIf, sSet, sNil, sDrop, sRaise, dVar, dBin, dUn, dAnd, dOr, dNot, dIf, dAll, dCall, dMake, runArgs, gIsi, List.replicate, c_is_number, b_is_number, dChain, leB]
  by_cases h : lo ≤ i <;> simp [h]
end G

set_option maxRecDepth 100000
set_option maxHeartbeats 4000000
namespace G
open PySem PySem.Spec L2 DL
theorem v_is_count {i : Int} : callV c_is_count [.int i] = .ok (.val (.bl (decide (0 ≤ i)))) := by
  unfold callV
  simp -implicitDefEqProofs [callC, ownsIn, backD, sRet, sSeq, sIf, sSet, sNil, sDrop, sRaise, dVar, dBin, dUn, dAnd, dOr, dNot, dIf, dAll, dCall, dMake, runArgs, gIsi, List.replicate, c_is_count, b_is_count, gGe, gI]
end G

set_option maxRecDepth 100000
set_option maxHeartbeats 4000000
/-! Qwords: games, goals, what is checked first. -/
namespace G
open PySem PySem.Spec L2 DL
def gS : Nat → Str
  | 0 => "front"
  | 1 => "ends"
  | _ => "parts"
def hS : Nat → Str
  | 0 => "grouped"
  | _ => "sorted"
def isNo (v : VRes) : Bool := match v with
  | .ok (.val (.bl b)) => !b
  | _ => false
theorem isNo_of {v : VRes} (h : isNo v = true) : v = .ok (.val (.bl false)) := by
  unfold isNo at h
  split at h
  · rename_i b
    cases b
    · rfl
    · cases h
  · cases h
theorem in_game {g : Nat} : gNotIn (.str (gS g)) (.fix ((["front", "ends", "parts"] : List String).map fun z => D.str (Str.ofString z))) = .ok (.val (.bl false)) := by
  match g with
  | 0 => exact isNo_of (by decide +kernel)
  | 1 => exact isNo_of (by decide +kernel)
  | _ + 2 => exact isNo_of (show isNo (gNotIn (.str "parts") (.fix (((["front", "ends", "parts"] : List String).map fun z => D.str (Str.ofString z))))) = true by decide +kernel)
theorem in_goal {h : Nat} : gNotIn (.str (hS h)) (.fix ((["grouped", "sorted"] : List String).map fun z => D.str (Str.ofString z))) = .ok (.val (.bl false)) := by
  match h with
  | 0 => exact isNo_of (by decide +kernel)
  | _ + 1 => exact isNo_of (show isNo (gNotIn (.str "sorted") (.fix (((["grouped", "sorted"] : List String).map fun z => D.str (Str.ofString z))))) = true by decide +kernel)
theorem v_check_game {g : Nat} : callV c_check_game [.str (gS g)] = .ok (.val .non) := by
  have e := in_game (g := g)
  simp only [List.map_cons, List.map_nil] at e
  generalize gS g = z at *
  unfold callV
  simp -implicitDefEqProofs [callC, ownsIn, backD, sRet, sSeq, sIf, sSet, sNil, sDrop, sRaise, dVar, dBin, dUn, dAnd, dOr, dNot, dIf, dAll, dCall, dMake, runArgs, gIsi, List.replicate, c_check_game, b_check_game, e]
theorem v_check_goal {h : Nat} : callV c_check_goal [.str (hS h)] = .ok (.val .non) := by
  have e := in_goal (h := h)
  simp only [List.map_cons, List.map_nil] at e
  generalize hS h = z at *
  unfold callV
  simp -implicitDefEqProofs [callC, ownsIn, backD, sRet, sSeq, sIf, sSet, sNil, sDrop, sRaise, dVar, dBin, dUn, dAnd, dOr, dNot, dIf, dAll, dCall, dMake, runArgs, gIsi, List.replicate, c_check_goal, b_check_goal, e]
theorem v_check_words {g h : Nat} : callV c_check_words [.str (gS g), .str (hS h)] = .ok (.val .non) := by
  have e := v_check_game (g := g)
  have f := v_check_goal (h := h)
  generalize gS g = z at *
  generalize hS h = y at *
  unfold callV
  simp -implicitDefEqProofs [callC, ownsIn, backD, sRet, sSeq, sIf, sSet, sNil, sDrop, sRaise, dVar, dBin, dUn, dAnd, dOr, dNot, dIf, dAll, dCall, dMake, runArgs, gIsi, List.replicate, c_check_words, b_check_words, e, f]
theorem v_check_length {n m : Int} (h0 : 0 ≤ n) (h : n ≤ m) : callV c_check_length [.int n, .int m] = .ok (.val .non) := by
  unfold callV
  simp -implicitDefEqProofs [callC, ownsIn, backD, sRet, sSeq, sIf, sSet, sNil, sDrop, sRaise, dVar, dBin, dUn, dAnd, dOr, dNot, dIf, dAll, dCall, dMake, runArgs, gIsi, List.replicate, c_check_length, b_check_length, v_is_number, h0, h]
theorem v_check_count {n : Int} (h0 : 0 ≤ n) : callV c_check_count [.int n] = .ok (.val .non) := by
  unfold callV
  simp -implicitDefEqProofs [callC, ownsIn, backD, sRet, sSeq, sIf, sSet, sNil, sDrop, sRaise, dVar, dBin, dUn, dAnd, dOr, dNot, dIf, dAll, dCall, dMake, runArgs, gIsi, List.replicate, c_check_count, b_check_count, v_is_count, h0]
end G

set_option maxRecDepth 100000
set_option maxHeartbeats 4000000
/-! Qksearch: the law's words, turns, places. -/
namespace G
open PySem PySem.Spec L2 DL
abbrev Wd := List Nat
abbrev wD (w : Wd) : D := .str (bitsS w)
def turnM (s e : Nat) (w : Wd) : Wd := w.take s ++ ((w.drop s).take (e - s)).reverse ++ w.drop e
def wordsM : Nat → List Wd
  | 0 => [[]]
  | n + 1 => (wordsM n).map (· ++ [0]) ++ (wordsM n).map (· ++ [1])
theorem words_len : ∀ (n : Nat) (w : Wd), w ∈ wordsM n → w.length = n
  | 0, w, h => by simp [wordsM] at h; subst h; rfl
  | n + 1, w, h => by
    unfold wordsM at h
    rcases List.mem_append.mp h with h | h
    · obtain ⟨v, h1, rfl⟩ := List.mem_map.mp h
      rw [List.length_append, words_len n v h1]
      rfl
    · obtain ⟨v, h1, rfl⟩ := List.mem_map.mp h
      rw [List.length_append, words_len n v h1]
      rfl
theorem words_many : ∀ n : Nat, (wordsM n).length = 2 ^ n
  | 0 => rfl
  | n + 1 => by
    unfold wordsM
    rw [List.length_append, List.length_map, List.length_map, words_many n]
    omega
theorem v_l_turn {s e : Nat} {w : Wd} (h1 : s ≤ e) (h2 : e ≤ w.length) (hl : w.length ≤ 1000) : callV c_l_turn [wD w, .int s, .int e] = .ok (.val (wD (turnM s e w))) := by
  have a := sl_lo (w := w) (s := s) rfl (by omega) hl
  have b := sl_mid (w := w) (s := s) (e := e) rfl rfl h1 h2 hl
  have c := sl_hi (w := w) (s := e) rfl h2 hl
  have fb : (bitsS ((w.drop s).take (e - s))).length ≤ sizeLine := len_fits (by simp; omega)
  have r := rev_bits (w := (w.drop s).take (e - s))
  have d := add_bits (a := w.take s) (b := ((w.drop s).take (e - s)).reverse) (by simp; omega)
  have f := add_bits (a := w.take s ++ ((w.drop s).take (e - s)).reverse) (b := w.drop e) (by simp; omega)
  unfold turnM
  simp only [wD]
  generalize bitsS (w.take s ++ ((w.drop s).take (e - s)).reverse ++ w.drop e) = z5 at *
  generalize bitsS (w.take s ++ ((w.drop s).take (e - s)).reverse) = z4 at *
  generalize bitsS ((w.drop s).take (e - s)).reverse = z3 at *
  generalize bitsS ((w.drop s).take (e - s)) = z2 at *
  generalize bitsS (w.take s) = z1 at *
  generalize bitsS (w.drop e) = z6 at *
  generalize bitsS w = z at *
  unfold callV
  simp -implicitDefEqProofs [callC, ownsIn, backD, sRet, sSeq, sIf, sSet, sNil, sDrop, sRaise, dVar, dBin, dUn, dAnd, dOr, dNot, dIf, dAll, dCall, dMake, runArgs, gIsi, List.replicate, c_l_turn, b_l_turn, dSl, dRevS, PtD.run, a, b, c, fb, r, d, f]
/-! ### all words -/
theorem words_step {n : Nat} {ws : List Wd} {x : Option R} {k : Nat} (hw : ∀ w ∈ ws, w.length ≤ 100) (hl : ws.length ≤ 1000) :
    bd_l_words_0 [some (.val (.int n)), some (.own (.lst (ws.map wD))), x, none] = .nx [some (.val (.int n)), some (.own (.lst ((ws.map (· ++ [0]) ++ ws.map (· ++ [1])).map wD))), x, none] := by
  have lc : ∀ (c : Nat) (te : DEn), (∀ w : Wd, w.length ≤ 100 → te [some (.val (.int n)), some (.val (.lst (ws.map wD))), x, some (.val (wD w))] = .ok (.val (wD (w ++ [c]))) [some (.val (.int n)), some (.val (.lst (ws.map wD))), x, some (.val (wD w))]) →
      runLc [3] (.name 3) (dC (.bl true)) te (ws.map wD) [some (.val (.int n)), some (.val (.lst (ws.map wD))), x, none] [] = .ok (.own (.lst ((ws.map (· ++ [c])).map wD))) [some (.val (.int n)), some (.val (.lst (ws.map wD))), x, none] := fun c te ht => by
    have := runLc_mapG (vs := [3]) (tg := .name 3) (te := te) (ρ := [some (.val (.int n)), some (.val (.lst (ws.map wD))), x, none]) (g := wD) (f := fun w => wD (w ++ [c])) ws [] (fun w h => ⟨_, _, _, rfl, ht w (hw w h), rfl, rfl⟩) (by simp; unfold sizeLine; omega)
    rw [List.nil_append] at this
    rw [this, List.map_map]
    rfl
  have t0 := lc 0 el_l_words_0 fun w h => by
    have a := add_bits (a := w) (b := [0]) (by simp; omega)
    rw [bits_0] at a
    simp only [wD]
    generalize bitsS (w ++ [0]) = z at *
    generalize ws.map wD = L at *
    generalize bitsS w = z2 at *
    simp -implicitDefEqProofs [callC, ownsIn, backD, sRet, sSeq, sIf, sSet, sNil, sDrop, sRaise, dVar, dBin, dUn, dAnd, dOr, dNot, dIf, dAll, dCall, dMake, runArgs, gIsi, List.replicate, el_l_words_0, a]
  have t1 := lc 1 el_l_words_1 fun w h => by
    have a := add_bits (a := w) (b := [1]) (by simp; omega)
    rw [bits_1] at a
    simp only [wD]
    generalize bitsS (w ++ [1]) = z at *
    generalize ws.map wD = L at *
    generalize bitsS w = z2 at *
    simp -implicitDefEqProofs [callC, ownsIn, backD, sRet, sSeq, sIf, sSet, sNil, sDrop, sRaise, dVar, dBin, dUn, dAnd, dOr, dNot, dIf, dAll, dCall, dMake, runArgs, gIsi, List.replicate, el_l_words_1, a]
  have hz : ((ws.map (· ++ [0])).map wD).length + ((ws.map (· ++ [1])).map wD).length ≤ sizeLine := by simp only [List.length_map]; unfold sizeLine; omega
  have cat : gAdd (.lst ((ws.map (· ++ [0])).map wD)) (.lst ((ws.map (· ++ [1])).map wD)) = .ok (.own (.lst ((ws.map (· ++ [0])).map wD ++ (ws.map (· ++ [1])).map wD))) := by
    generalize (ws.map (· ++ [0])).map wD = A at *
    generalize (ws.map (· ++ [1])).map wD = B at *
    simp [gAdd, gOr, gI, gAddS, gCat, hz]
  rw [List.map_append]
  generalize (ws.map (· ++ [0])).map wD = A at *
  generalize (ws.map (· ++ [1])).map wD = B at *
  generalize ws.map wD = L at *
  simp -implicitDefEqProofs [callC, ownsIn, backD, sRet, sSeq, sIf, sSet, sNil, sDrop, sRaise, dVar, dBin, dUn, dAnd, dOr, dNot, dIf, dAll, dCall, dMake, runArgs, gIsi, List.replicate, bd_l_words_0, dLc, srcOf, gLstI, wipeD, t0, t1, cat]
theorem v_l_words {n : Nat} (hn : n ≤ 8) : callV c_l_words [.int n] = .ok (.val (.lst ((wordsM n).map wD))) := by
  have src : srcR1 [.e (dVar 0)] [some (.val (.int n)), some (.own (.lst [wD []])), none, none] = .ok (rangeD 0 n) [some (.val (.int n)), some (.own (.lst [wD []])), none, none] := by
    have k1 : (n : Int) < 4611686018427387904 := by omega
    have k2 : -4611686018427387904 ≤ (n : Int) := by omega
    simp -implicitDefEqProofs [callC, ownsIn, backD, sRet, sSeq, sIf, sSet, sNil, sDrop, sRaise, dVar, dBin, dUn, dAnd, dOr, dNot, dIf, dAll, dCall, dMake, runArgs, gIsi, List.replicate, srcA, kR1, k1, k2]
  obtain ⟨ρ', e1, e2⟩ := runFor_inv (tg := .name 2) (body := bd_l_words_0) (fun i ρ => i ≤ n → ∃ x, ρ = [some (.val (.int n)), some (.own (.lst ((wordsM i).map wD))), x, none]) (rangeD 0 n) 0 [some (.val (.int n)), some (.own (.lst [wD []])), none, none] (fun _ => ⟨none, rfl⟩) (fun j x ρ hj h => by
    have hj' : j < n := by
      have := (List.getElem?_eq_some_iff.mp hj).1
      simpa [rangeD] using this
    obtain ⟨y, rfl⟩ := h (by omega)
    refine ⟨[some (.val (.int n)), some (.own (.lst ((wordsM (0 + j)).map wD))), some (.val x), none], _, rfl, words_step (k := 0) (fun w hw => by rw [words_len _ w hw]; omega) (by rw [words_many]; exact Nat.le_trans (Nat.pow_le_pow_right (by omega) (show 0 + j ≤ 8 by omega)) (by decide)), fun _ => ⟨some (.val x), rfl⟩⟩)
  have hz : (rangeD 0 n).length = n := by simp [rangeD]
  rw [hz, Nat.zero_add] at e2
  obtain ⟨w, rfl⟩ := e2 (Nat.le_refl _)
  have f := sFor_of src e1
  have e0 : wD [] = .str "" := by simp only [wD]; rw [bits_nil]
  rw [e0] at f
  generalize (wordsM n).map wD = L at *
  unfold callV c_l_words b_l_words
  generalize sFor (srcR1 [.e (dVar 0)]) (.name 2) bd_l_words_0 = st at *
  simp -implicitDefEqProofs [callC, ownsIn, backD, sRet, sSeq, sIf, sSet, sNil, sDrop, sRaise, dVar, dBin, dUn, dAnd, dOr, dNot, dIf, dAll, dCall, dMake, runArgs, gIsi, List.replicate, f]
end G

set_option maxRecDepth 100000
set_option maxHeartbeats 4000000
/-! Qkinds: kinds of rows, their costs. -/
namespace G
open PySem PySem.Spec L2 DL
abbrev Kd := Nat × Nat
def kD (p : Kd) : D := .tup [.int p.1, .int p.2]
def kinds (n : Nat) : List Kd := if n = 0 then [(0, 0)] else (List.range n).flatMap fun i => [(i + 1, 0), (i + 1, 1)]
def sc (g r f : Nat) : Nat := match g with
  | 0 => r - 2 + (if (f + r - 1) % 2 = 0 then 1 else 0)
  | 1 => r - 2 + (if r = 2 ∧ f = 1 then 1 else 0)
  | _ => (r - 2 + f + (if (f + r - 1) % 2 = 0 then 1 else 0)) / 2
def pc (g h r f : Nat) : Nat := if r < 2 then 0 else match h with
  | 0 => (match g with
    | 0 => r - 2
    | 1 => r - 2
    | _ => (r - 1) / 2)
  | _ => sc g r f
theorem rangeD_map {lo : Int} {n : Nat} : rangeD lo n = (List.range n).map fun (i : Nat) => D.int (lo + i) := rfl
theorem v_kinds {n : Nat} (hn : n ≤ 5000) : callV c_kinds_of_length [.int n] = .ok (.own (.lst ((kinds n).map kD))) := by
  unfold callV
  by_cases h : n = 0
  · subst h
    simp -implicitDefEqProofs [callC, ownsIn, backD, sRet, sSeq, sIf, sSet, sNil, sDrop, sRaise, dVar, dBin, dUn, dAnd, dOr, dNot, dIf, dAll, dCall, dMake, runArgs, gIsi, List.replicate, c_kinds_of_length, b_kinds_of_length, kinds, kD]
  · have h0 : ¬ (n : Int) = 0 := by omega
    have src : srcR2 [.e (dC (.int 1)), .e (dBin gAdd (dVar 0) (dC (.int 1)))] [some (.val (.int n)), none, none] = .ok ((List.range n).map fun (i : Nat) => D.int (1 + i)) [some (.val (.int n)), none, none] := by
      have k1 : (n : Int) + 1 < 4611686018427387904 := by omega
      have k2 : -4611686018427387904 ≤ (n : Int) + 1 := by omega
      have k3 : ((n : Int) + 1 - 1).toNat = n := by omega
      simp -implicitDefEqProofs [callC, ownsIn, backD, sRet, sSeq, sIf, sSet, sNil, sDrop, sRaise, dVar, dBin, dUn, dAnd, dOr, dNot, dIf, dAll, dCall, dMake, runArgs, gIsi, List.replicate, srcA, kR2, k1, k2, k3, rangeD]
    have lc := runLc2_mapG (vs := [1, 2]) (vs1 := [2]) (tg := .name 1) (tg1 := .name 2) (src1 := srcOf gTupI (dAll DL.gTup [.e (dC (.int 0)), .e (dC (.int 1))])) (tt1 := dC (.bl true)) (te := el_kinds_of_length_0) (ρ := [some (.val (.int n)), none, none]) (g := fun (i : Nat) => D.int (1 + i)) (F := fun (i : Nat) => [kD (i + 1, 0), kD (i + 1, 1)]) (k := 2) (List.range n) [] (fun i hi => ⟨Nat.le_refl _, fun acc ha => by
      have a1 : acc.length < sizeLine := by omega
      have a2 : acc.length + 1 < sizeLine := by omega
      refine ⟨[some (.val (.int n)), some (.val (.int (1 + i))), none], [.int 0, .int 1], [some (.val (.int n)), some (.val (.int (1 + i))), none], [some (.val (.int n)), some (.val (.int (1 + i))), none], rfl, ?_, ?_, rfl⟩
      · simp -implicitDefEqProofs [callC, ownsIn, backD, sRet, sSeq, sIf, sSet, sNil, sDrop, sRaise, dVar, dBin, dUn, dAnd, dOr, dNot, dIf, dAll, dCall, dMake, runArgs, gIsi, List.replicate, srcOf, gTupI]
      · have ic : (1 : Int) + i = i + 1 := by omega
        simp -implicitDefEqProofs [callC, ownsIn, backD, sRet, sSeq, sIf, sSet, sNil, sDrop, sRaise, dVar, dBin, dUn, dAnd, dOr, dNot, dIf, dAll, dCall, dMake, runArgs, gIsi, List.replicate, runLc, wipeD, el_kinds_of_length_0, kD, a1, a2, Tg.asg, ic]⟩) (by unfold sizeLine; simp; omega)
    have e2 : ((List.range n).map fun (i : Nat) => [kD (i + 1, 0), kD (i + 1, 1)]).flatten = (kinds n).map kD := by
      unfold kinds
      rw [if_neg h, List.map_flatMap, List.flatMap_def]
      rfl
    rw [e2, List.nil_append] at lc
    unfold c_kinds_of_length b_kinds_of_length
    generalize srcR2 [.e (dC (.int 1)), .e (dBin gAdd (dVar 0) (dC (.int 1)))] = src1 at *
    simp -implicitDefEqProofs [callC, ownsIn, backD, sRet, sSeq, sIf, sSet, sNil, sDrop, sRaise, dVar, dBin, dUn, dAnd, dOr, dNot, dIf, dAll, dCall, dMake, runArgs, gIsi, List.replicate, dLc2, src, wipeD, lc, h]
theorem kinds_mem {n r f : Nat} (h : (r, f) ∈ kinds n) : f ≤ 1 ∧ r ≤ n ∧ (n = 0 → r = 0 ∧ f = 0) ∧ (0 < n → 0 < r) := by
  unfold kinds at h
  split at h
  · simp at h; omega
  · rw [List.mem_flatMap] at h
    obtain ⟨i, hi, h⟩ := h
    rw [List.mem_range] at hi
    simp at h
    omega
theorem in_kinds {n r f : Nat} (hr : 0 < r) (hn : r ≤ n) (hf : f ≤ 1) : (r, f) ∈ kinds n := by
  unfold kinds
  rw [if_neg (by omega), List.mem_flatMap]
  refine ⟨r - 1, List.mem_range.mpr (by omega), ?_⟩
  have : r - 1 + 1 = r := by omega
  simp [this]
  omega
theorem st_1 : ¬ Str.ofString "ends" = Str.ofString "front" := by decide +kernel
theorem st_2 : ¬ Str.ofString "parts" = Str.ofString "front" := by decide +kernel
theorem st_3 : ¬ Str.ofString "parts" = Str.ofString "ends" := by decide +kernel
theorem st_4 : ¬ Str.ofString "grouped" = Str.ofString "sorted" := by decide +kernel
theorem st_5 : ¬ Str.ofString "front" = Str.ofString "parts" := by decide +kernel
theorem st_6 : ¬ Str.ofString "ends" = Str.ofString "parts" := by decide +kernel
theorem v_sorting_cost {g r f : Nat} (hr : 2 ≤ r) (hf : f ≤ 1) : callV c_sorting_cost [.int r, .int f, .str (gS g)] = .ok (.val (.int (sc g r f))) := by
  have m2 : ∀ i : Int, gMod (.int i) (.int 2) = .ok (.val (.int (i % 2))) := fun i => gMod_int (by omega)
  have d : ∀ i : Int, gFdiv (.int i) (.int 2) = .ok (.val (.int (i / 2))) := fun i => gFdiv_int (by omega) (by decide +kernel)
  have e1 : ((f : Int) + r - 1) % 2 = (((f + r - 1) % 2 : Nat) : Int) := by omega
  have hl : (f + r - 1) % 2 = 0 ∨ (f + r - 1) % 2 = 1 := by omega
  have e2 : gS 0 = Str.ofString "front" := rfl
  have e3 : gS 1 = Str.ofString "ends" := rfl
  unfold callV
  match g with
  | 0 =>
    rw [e2]
    rcases hl with q | q
    · have e4 : ((sc 0 r f : Nat) : Int) = (r : Int) - 2 + 1 := by simp only [sc, q]; simp; omega
      have e5 : ((f : Int) + r - 1) % 2 = 0 := by omega
      rw [e4]
      simp -implicitDefEqProofs [callC, ownsIn, backD, sRet, sSeq, sIf, sSet, sNil, sDrop, sRaise, dVar, dBin, dUn, dAnd, dOr, dNot, dIf, dAll, dCall, dMake, runArgs, gIsi, List.replicate, c_sorting_cost, b_sorting_cost, sMatch, runCases, m2, e5]
    · have e4 : ((sc 0 r f : Nat) : Int) = (r : Int) - 2 := by simp only [sc, q]; simp; omega
      have e5 : ((f : Int) + r - 1) % 2 = 1 := by omega
      rw [e4]
      simp -implicitDefEqProofs [callC, ownsIn, backD, sRet, sSeq, sIf, sSet, sNil, sDrop, sRaise, dVar, dBin, dUn, dAnd, dOr, dNot, dIf, dAll, dCall, dMake, runArgs, gIsi, List.replicate, c_sorting_cost, b_sorting_cost, sMatch, runCases, m2, e5]
  | 1 =>
    rw [e3]
    by_cases q1 : r = 2
    · subst q1
      rcases (show f = 0 ∨ f = 1 by omega) with rfl | rfl
      · have e4 : ((sc 1 2 0 : Nat) : Int) = 0 := rfl
        rw [e4]
        simp -implicitDefEqProofs [callC, ownsIn, backD, sRet, sSeq, sIf, sSet, sNil, sDrop, sRaise, dVar, dBin, dUn, dAnd, dOr, dNot, dIf, dAll, dCall, dMake, runArgs, gIsi, List.replicate, c_sorting_cost, b_sorting_cost, sMatch, runCases, m2, st_1]
      · have e4 : ((sc 1 2 1 : Nat) : Int) = 1 := rfl
        rw [e4]
        simp -implicitDefEqProofs [callC, ownsIn, backD, sRet, sSeq, sIf, sSet, sNil, sDrop, sRaise, dVar, dBin, dUn, dAnd, dOr, dNot, dIf, dAll, dCall, dMake, runArgs, gIsi, List.replicate, c_sorting_cost, b_sorting_cost, sMatch, runCases, m2, st_1]
    · have q2 : ¬ (r : Int) = 2 := by omega
      have e4 : ((sc 1 r f : Nat) : Int) = (r : Int) - 2 := by simp only [sc, q1]; simp; omega
      rw [e4]
      simp -implicitDefEqProofs [callC, ownsIn, backD, sRet, sSeq, sIf, sSet, sNil, sDrop, sRaise, dVar, dBin, dUn, dAnd, dOr, dNot, dIf, dAll, dCall, dMake, runArgs, gIsi, List.replicate, c_sorting_cost, b_sorting_cost, sMatch, runCases, m2, st_1, q1, q2]
  | _ + 2 =>
    rename_i g'
    have e6 : gS (g' + 2) = Str.ofString "parts" := rfl
    rw [e6]
    rcases hl with q | q
    · have e4 : ((sc (g' + 2) r f : Nat) : Int) = ((r : Int) - 2 + f + 1) / 2 := by simp only [sc, q]; simp; omega
      have e5 : ((f : Int) + r - 1) % 2 = 0 := by omega
      rw [e4]
      simp -implicitDefEqProofs [callC, ownsIn, backD, sRet, sSeq, sIf, sSet, sNil, sDrop, sRaise, dVar, dBin, dUn, dAnd, dOr, dNot, dIf, dAll, dCall, dMake, runArgs, gIsi, List.replicate, c_sorting_cost, b_sorting_cost, sMatch, runCases, m2, st_2, st_3, e5, d]
    · have e4 : ((sc (g' + 2) r f : Nat) : Int) = ((r : Int) - 2 + f) / 2 := by simp only [sc, q]; simp; omega
      have e5 : ((f : Int) + r - 1) % 2 = 1 := by omega
      rw [e4]
      simp -implicitDefEqProofs [callC, ownsIn, backD, sRet, sSeq, sIf, sSet, sNil, sDrop, sRaise, dVar, dBin, dUn, dAnd, dOr, dNot, dIf, dAll, dCall, dMake, runArgs, gIsi, List.replicate, c_sorting_cost, b_sorting_cost, sMatch, runCases, m2, st_2, st_3, e5, d]
theorem v_plain_cost {g h r f : Nat} (hf : f ≤ 1) : callV c_plain_cost [.int r, .int f, .str (gS g), .str (hS h)] = .ok (.val (.int (pc g h r f))) := by
  by_cases hr : r < 2
  · have e : pc g h r f = 0 := by unfold pc; rw [if_pos hr]
    have q : (r : Int) < 2 := by omega
    rw [e]
    generalize gS g = z
    generalize hS h = y
    unfold callV
    simp -implicitDefEqProofs [callC, ownsIn, backD, sRet, sSeq, sIf, sSet, sNil, sDrop, sRaise, dVar, dBin, dUn, dAnd, dOr, dNot, dIf, dAll, dCall, dMake, runArgs, gIsi, List.replicate, c_plain_cost, b_plain_cost, q]
  · have q : ¬ (r : Int) < 2 := by omega
    have d : ∀ i : Int, gFdiv (.int i) (.int 2) = .ok (.val (.int (i / 2))) := fun i => gFdiv_int (by omega) (by decide +kernel)
    have s := v_sorting_cost (g := g) (r := r) (f := f) (by omega) hf
    match h with
    | _ + 1 =>
      rename_i h'
      have e : pc g (h' + 1) r f = sc g r f := by simp only [pc]; rw [if_neg hr]
      have e2 : hS (h' + 1) = Str.ofString "sorted" := rfl
      rw [e, e2]
      generalize gS g = z at *
      unfold callV
      simp -implicitDefEqProofs [callC, ownsIn, backD, sRet, sSeq, sIf, sSet, sNil, sDrop, sRaise, dVar, dBin, dUn, dAnd, dOr, dNot, dIf, dAll, dCall, dMake, runArgs, gIsi, List.replicate, c_plain_cost, b_plain_cost, q, gEq, s]
    | 0 =>
      have e2 : hS 0 = Str.ofString "grouped" := rfl
      rw [e2]
      unfold callV
      match g with
      | 0 =>
        have e : ((pc 0 0 r f : Nat) : Int) = (r : Int) - 2 := by simp only [pc]; rw [if_neg hr]; omega
        have e3 : gS 0 = Str.ofString "front" := rfl
        rw [e, e3]
        simp -implicitDefEqProofs [callC, ownsIn, backD, sRet, sSeq, sIf, sSet, sNil, sDrop, sRaise, dVar, dBin, dUn, dAnd, dOr, dNot, dIf, dAll, dCall, dMake, runArgs, gIsi, List.replicate, c_plain_cost, b_plain_cost, q, gEq, st_4, st_5]
      | 1 =>
        have e : ((pc 1 0 r f : Nat) : Int) = (r : Int) - 2 := by simp only [pc]; rw [if_neg hr]; omega
        have e3 : gS 1 = Str.ofString "ends" := rfl
        rw [e, e3]
        simp -implicitDefEqProofs [callC, ownsIn, backD, sRet, sSeq, sIf, sSet, sNil, sDrop, sRaise, dVar, dBin, dUn, dAnd, dOr, dNot, dIf, dAll, dCall, dMake, runArgs, gIsi, List.replicate, c_plain_cost, b_plain_cost, q, gEq, st_4, st_6]
      | _ + 2 =>
        rename_i g'
        have e : ((pc (g' + 2) 0 r f : Nat) : Int) = ((r : Int) - 1) / 2 := by simp only [pc]; rw [if_neg hr]; omega
        have e3 : gS (g' + 2) = Str.ofString "parts" := rfl
        rw [e, e3]
        simp -implicitDefEqProofs [callC, ownsIn, backD, sRet, sSeq, sIf, sSet, sNil, sDrop, sRaise, dVar, dBin, dUn, dAnd, dOr, dNot, dIf, dAll, dCall, dMake, runArgs, gIsi, List.replicate, c_plain_cost, b_plain_cost, q, gEq, st_4, d]
end G

set_option maxRecDepth 100000
set_option maxHeartbeats 4000000
/-! Qkplaces: the law's places, what is done, runs. -/
namespace G
open PySem PySem.Spec L2 DL
abbrev Pl := Nat × Nat
abbrev pD (p : Pl) : D := .tup [.int p.1, .int p.2]
def okP (n g s e : Nat) : Bool := (g == 2) || ((s == 0) || ((g == 1) && (e == n)))
def rowP (n g s : Nat) (is : List Nat) : List Pl := (is.map fun i => (s, s + 1 + i)).filter fun p => okP n g p.1 p.2
def placesM (n g : Nat) : List Pl := (List.range n).flatMap fun s => rowP n g s (List.range (n - s))
theorem gm_parts {g : Nat} (h : g ≤ 2) : gEq (.str (gS g)) (.str (Str.ofString "parts")) = .ok (.val (.bl (g == 2))) := by
  simp only [gEq]
  congr 3
  rcases (show g = 0 ∨ g = 1 ∨ g = 2 by omega) with rfl | rfl | rfl <;> decide +kernel
theorem gm_ends {g : Nat} (h : g ≤ 2) : gEq (.str (gS g)) (.str (Str.ofString "ends")) = .ok (.val (.bl (g == 1))) := by
  simp only [gEq]
  congr 3
  rcases (show g = 0 ∨ g = 1 ∨ g = 2 by omega) with rfl | rfl | rfl <;> decide +kernel
theorem gm_sorted {h : Nat} (hh : h ≤ 1) : gEq (.str (hS h)) (.str (Str.ofString "sorted")) = .ok (.val (.bl (h == 1))) := by
  simp only [gEq]
  congr 3
  rcases (show h = 0 ∨ h = 1 by omega) with rfl | rfl <;> decide +kernel
theorem places_step {n g s e : Nat} {e' : Int} {acc : List Pl} (he : e' = e) (hg : g ≤ 2) (hl : acc.length ≤ 1000) :
    bd_l_places_0 [some (.val (.int n)), some (.val (.str (gS g))), some (.own (.lst (acc.map pD))), some (.val (.int s)), some (.val (.int e'))] = .nx [some (.val (.int n)), some (.val (.str (gS g))), some (.own (.lst ((acc ++ if okP n g s e = true then [(s, e)] else []).map pD))), some (.val (.int s)), some (.val (.int e'))] := by
  subst he
  have p := gm_parts hg
  have q := gm_ends hg
  have hz : (acc.map pD).length < sizeLine := by rw [List.length_map]; unfold sizeLine; omega
  unfold okP
  generalize hb1 : (g == 2) = b1 at *
  generalize hb2 : (g == 1) = b2 at *
  have es : gEq (.int s) (.int 0) = .ok (.val (.bl (s == 0))) := by
    simp only [gEq]
    congr 3
    by_cases h : s = 0 <;> simp [h]
  have ee : gEq (.int e) (.int n) = .ok (.val (.bl (e == n))) := by
    have q : decide ((e : Int) = n) = (e == n) := by
      by_cases h : e = n
      · subst h; simp
      · have h2 : ¬ (e : Int) = n := by omega
        simp [h, h2]
    simp only [gEq]
    rw [q]
  rw [List.map_append]
  generalize gS g = z at *
  generalize (s == 0) = b3 at *
  generalize (e == n) = b4 at *
  generalize acc.map pD = L at *
  cases b1 <;> cases b2 <;> cases b3 <;> cases b4 <;> simp -implicitDefEqProofs [callC, ownsIn, backD, sRet, sSeq, sIf, sSet, sNil, sDrop, sRaise, dVar, dBin, dUn, dAnd, dOr, dNot, dIf, dAll, dCall, dMake, runArgs, gIsi, List.replicate, bd_l_places_0, p, q, es, ee, dAppend, hz, pD]
theorem rowP_len (n g s : Nat) (is : List Nat) : (rowP n g s is).length ≤ is.length := by
  unfold rowP
  exact Nat.le_trans (List.length_filter_le _ _) (by rw [List.length_map]; exact Nat.le_refl _)
theorem places_row {n g s : Nat} (hg : g ≤ 2) : ∀ (is : List Nat) (acc : List Pl) (x : Option R), acc.length + is.length ≤ 1000 →
    ∃ x', runFor (.name 4) bd_l_places_0 (is.map fun (i : Nat) => D.int ((s : Int) + 1 + i)) [some (.val (.int n)), some (.val (.str (gS g))), some (.own (.lst (acc.map pD))), some (.val (.int s)), x] = .nx [some (.val (.int n)), some (.val (.str (gS g))), some (.own (.lst ((acc ++ rowP n g s is).map pD))), some (.val (.int s)), x']
  | [], acc, x, _ => ⟨x, by simp [rowP, runFor]⟩
  | i :: is, acc, x, hl => by
    simp only [List.length_cons] at hl
    have e1 := places_step (n := n) (g := g) (s := s) (e := s + 1 + i) (e' := (s : Int) + 1 + i) (acc := acc) (by omega) hg (by omega)
    obtain ⟨x', e2⟩ := places_row hg is (acc ++ if okP n g s (s + 1 + i) = true then [(s, s + 1 + i)] else []) (some (.val (.int ((s : Int) + 1 + i)))) (by rw [List.length_append]; split <;> simp <;> omega)
    refine ⟨x', ?_⟩
    rw [List.map_cons]
    unfold runFor
    simp only [Tg.asg, List.set_cons_succ, List.set_cons_zero]
    rw [e1]
    have e3 : acc ++ rowP n g s (i :: is) = (acc ++ if okP n g s (s + 1 + i) = true then [(s, s + 1 + i)] else []) ++ rowP n g s is := by
      unfold rowP
      rw [List.map_cons, List.filter_cons, List.append_assoc]
      split <;> rfl
    rw [e3]
    exact e2
theorem flat_len (n g : Nat) : ∀ m : Nat, ((List.range m).flatMap fun s => rowP n g s (List.range (n - s))).length ≤ m * n
  | 0 => by simp
  | m + 1 => by
    rw [List.range_succ, List.flatMap_append, List.length_append, Nat.add_mul]
    have := flat_len n g m
    have h2 := rowP_len n g m (List.range (n - m))
    rw [List.length_range] at h2
    simp only [List.flatMap_cons, List.flatMap_nil, List.append_nil]
    omega
theorem v_l_places {n g : Nat} (hn : n ≤ 8) (hg : g ≤ 2) : callV c_l_places [.int n, .str (gS g)] = .ok (.val (.lst ((placesM n g).map pD))) := by
  have src : srcR1 [.e (dVar 0)] [some (.val (.int n)), some (.val (.str (gS g))), some (.own (.lst [])), none, none] = .ok (rangeD 0 n) [some (.val (.int n)), some (.val (.str (gS g))), some (.own (.lst [])), none, none] := by
    have k1 : (n : Int) < 4611686018427387904 := by omega
    have k2 : -4611686018427387904 ≤ (n : Int) := by omega
    simp -implicitDefEqProofs [callC, ownsIn, backD, sRet, sSeq, sIf, sSet, sNil, sDrop, sRaise, dVar, dBin, dUn, dAnd, dOr, dNot, dIf, dAll, dCall, dMake, runArgs, gIsi, List.replicate, srcA, kR1, k1, k2]
  obtain ⟨ρ', e1, e2⟩ := runFor_inv (tg := .name 3) (body := bd_l_places_1) (fun i ρ => i ≤ n → ∃ x y, ρ = [some (.val (.int n)), some (.val (.str (gS g))), some (.own (.lst (((List.range i).flatMap fun s => rowP n g s (List.range (n - s))).map pD))), x, y]) (rangeD 0 n) 0 [some (.val (.int n)), some (.val (.str (gS g))), some (.own (.lst [])), none, none] (fun _ => ⟨none, none, rfl⟩) (fun j x ρ hj h => by
    have hj' : j < n := by
      have := (List.getElem?_eq_some_iff.mp hj).1
      simpa [rangeD] using this
    have hx : x = .int (j : Int) := by
      simp [rangeD, hj'] at hj
      exact hj.symm
    subst hx
    obtain ⟨x, y, rfl⟩ := h (by omega)
    have fl := flat_len n g (0 + j)
    have nn : (0 + j) * n ≤ 8 * 8 := Nat.mul_le_mul (by omega) hn
    obtain ⟨x', pr⟩ := places_row (n := n) (g := g) (s := j) hg (List.range (n - j)) ((List.range (0 + j)).flatMap fun s => rowP n g s (List.range (n - s))) y (by rw [List.length_range]; omega)
    refine ⟨[some (.val (.int n)), some (.val (.str (gS g))), some (.own (.lst (((List.range (0 + j)).flatMap fun s => rowP n g s (List.range (n - s))).map pD))), some (.val (.int j)), y], _, rfl, ?_, fun _ => ⟨some (.val (.int j)), x', rfl⟩⟩
    rw [List.range_succ, List.flatMap_append, List.flatMap_cons, List.flatMap_nil, List.append_nil, Nat.zero_add] at *
    have s2 : srcR2 [.e (dBin gAdd (dVar 3) (dC (.int 1))), .e (dBin gAdd (dVar 0) (dC (.int 1)))] [some (.val (.int n)), some (.val (.str (gS g))), some (.own (.lst (((List.range j).flatMap fun s => rowP n g s (List.range (n - s))).map pD))), some (.val (.int j)), y] = .ok ((List.range (n - j)).map fun (i : Nat) => D.int ((j : Int) + 1 + i)) [some (.val (.int n)), some (.val (.str (gS g))), some (.own (.lst (((List.range j).flatMap fun s => rowP n g s (List.range (n - s))).map pD))), some (.val (.int j)), y] := by
      have k1 : (n : Int) + 1 < 4611686018427387904 := by omega
      have k2 : -4611686018427387904 ≤ (n : Int) + 1 := by omega
      have k3 : (j : Int) + 1 < 4611686018427387904 := by omega
      have k4 : -4611686018427387904 ≤ (j : Int) + 1 := by omega
      have k5 : ((n : Int) + 1 - (j + 1)).toNat = n - j := by omega
      generalize (((List.range j).flatMap fun s => rowP n g s (List.range (n - s))).map pD) = L
      generalize gS g = z
      simp -implicitDefEqProofs [callC, ownsIn, backD, sRet, sSeq, sIf, sSet, sNil, sDrop, sRaise, dVar, dBin, dUn, dAnd, dOr, dNot, dIf, dAll, dCall, dMake, runArgs, gIsi, List.replicate, srcA, kR2, k1, k2, k3, k4, k5, rangeD]
    exact sFor_of s2 pr)
  have hz : (rangeD 0 n).length = n := by simp [rangeD]
  rw [hz, Nat.zero_add] at e2
  obtain ⟨x, y, rfl⟩ := e2 (Nat.le_refl _)
  have f := sFor_of src e1
  unfold placesM
  generalize (((List.range n).flatMap fun s => rowP n g s (List.range (n - s))).map pD) = L at *
  generalize gS g = z at *
  unfold callV c_l_places b_l_places
  generalize sFor (srcR1 [.e (dVar 0)]) (.name 3) bd_l_places_1 = st at *
  simp -implicitDefEqProofs [callC, ownsIn, backD, sRet, sSeq, sIf, sSet, sNil, sDrop, sRaise, dVar, dBin, dUn, dAnd, dOr, dNot, dIf, dAll, dCall, dMake, runArgs, gIsi, List.replicate, f]
end G

set_option maxRecDepth 100000
set_option maxHeartbeats 4000000
/-! Qkdone: is_done and runs of a word. -/
namespace G
open PySem PySem.Spec L2 DL
def chg (w : Wd) (i : Nat) : Bool := !decide ([w.getD i 0] = [w.getD (i - 1) 0])
def doneM (h : Nat) (w : Wd) : Bool := if (h == 1) = true then !hasT (bitsS w) (Str.ofString "10") else decide ((((List.range (w.length - 1)).filter fun i => chg w (1 + i)).length : Int) < 2)
def runsM (w : Wd) : Nat := ((List.range w.length).filter fun i => (i == 0) || chg w i).length
theorem ix_w {w : Wd} {i : Nat} {c : Int} (hc : c = i) (h : i < w.length) (hl : w.length ≤ 1000) : gIx (wD w) (.int c) = .ok (.val (wD [w.getD i 0])) := by
  have := ix_bits (xs := w) (k := i) hc h (by omega)
  rw [this]
  simp [List.getD, h]
theorem v_l_done {h : Nat} {w : Wd} (hh : h ≤ 1) (hl : w.length ≤ 1000) : callV c_l_is_done [wD w, .str (hS h)] = .ok (.val (.bl (doneM h w))) := by
  have g := gm_sorted hh
  have ln : gLen [wD w] = .ok (.val (.int w.length)) := by
    have := bits_len (xs := w)
    have fz : w.length ≤ sizeLine := by unfold sizeLine; omega
    simp [gLen, this, fz]
  unfold doneM
  have src : srcR2 [.e (dC (.int 1)), .e (dAll gLen [.e (dVar 0)])] [some (.val (wD w)), some (.val (.str (hS h))), none] = .ok ((List.range (w.length - 1)).map fun (i : Nat) => D.int (1 + i)) [some (.val (wD w)), some (.val (.str (hS h))), none] := by
    have k1 : (w.length : Int) < 4611686018427387904 := by omega
    have k2 : -4611686018427387904 ≤ (w.length : Int) := by omega
    have k3 : ((w.length : Int) - 1).toNat = w.length - 1 := by omega
    generalize wD w = z at *
    generalize hS h = y at *
    simp -implicitDefEqProofs [callC, ownsIn, backD, sRet, sSeq, sIf, sSet, sNil, sDrop, sRaise, dVar, dBin, dUn, dAnd, dOr, dNot, dIf, dAll, dCall, dMake, runArgs, gIsi, List.replicate, srcA, kR2, k1, k2, k3, rangeD, ln]
  have lc := runLc_filG (vs := [2]) (tg := .name 2) (tt := ct_l_is_done_0) (te := el_l_is_done_0) (ρ := [some (.val (wD w)), some (.val (.str (hS h))), none]) (g := fun (i : Nat) => D.int (1 + i)) (f := fun (i : Nat) => D.int (1 + i)) (b := fun i => chg w (1 + i)) (List.range (w.length - 1)) [] (fun i hi => by
    have hi' : i < w.length - 1 := List.mem_range.mp hi
    have a := ix_w (w := w) (i := 1 + i) (c := (1 : Int) + i) (by omega) (by omega) hl
    have b := ix_w (w := w) (i := 1 + i - 1) (c := (1 : Int) + i - 1) (by omega) (by omega) hl
    have ne := gNe_bits (a := [w.getD (1 + i) 0]) (b := [w.getD (1 + i - 1) 0])
    refine ⟨[some (.val (wD w)), some (.val (.str (hS h))), some (.val (.int (1 + i)))], [some (.val (wD w)), some (.val (.str (hS h))), some (.val (.int (1 + i)))], rfl, ?_, rfl, [some (.val (wD w)), some (.val (.str (hS h))), some (.val (.int (1 + i)))], .val (.int (1 + i)), ?_, rfl, rfl⟩
    · unfold chg
      simp only [wD] at *
      generalize bitsS [w.getD (1 + i) 0] = z1 at *
      generalize bitsS [w.getD (1 + i - 1) 0] = z2 at *
      generalize bitsS w = z at *
      generalize hS h = y at *
      generalize (!decide ([w.getD (1 + i) 0] = [w.getD (1 + i - 1) 0])) = bb at *
      simp -implicitDefEqProofs [callC, ownsIn, backD, sRet, sSeq, sIf, sSet, sNil, sDrop, sRaise, dVar, dBin, dUn, dAnd, dOr, dNot, dIf, dAll, dCall, dMake, runArgs, gIsi, List.replicate, ct_l_is_done_0, a, b, ne]
    · generalize wD w = z at *
      generalize hS h = y at *
      simp -implicitDefEqProofs [callC, ownsIn, backD, sRet, sSeq, sIf, sSet, sNil, sDrop, sRaise, dVar, dBin, dUn, dAnd, dOr, dNot, dIf, dAll, dCall, dMake, runArgs, gIsi, List.replicate, el_l_is_done_0]) (by simp; unfold sizeLine; omega)
  rw [List.nil_append] at lc
  have l2 : gLen [.lst (((List.range (w.length - 1)).filter fun i => chg w (1 + i)).map fun (i : Nat) => D.int (1 + i))] = .ok (.val (.int (((List.range (w.length - 1)).filter fun i => chg w (1 + i)).length : Nat))) := by
    simp [gLen]
  generalize (((List.range (w.length - 1)).filter fun i => chg w (1 + i)).length : Nat) = m at *
  generalize (((List.range (w.length - 1)).filter fun i => chg w (1 + i)).map fun (i : Nat) => D.int (1 + i)) = L at *
  simp only [wD] at *
  generalize (h == 1) = b at *
  generalize bitsS w = z at *
  generalize hS h = y at *
  generalize (List.range (w.length - 1)).map (fun (i : Nat) => D.int (1 + i)) = L0 at *
  unfold callV c_l_is_done b_l_is_done
  generalize srcR2 [.e (dC (.int 1)), .e (dAll gLen [.e (dVar 0)])] = src1 at *
  cases b <;> simp -implicitDefEqProofs [callC, ownsIn, backD, sRet, sSeq, sIf, sSet, sNil, sDrop, sRaise, dVar, dBin, dUn, dAnd, dOr, dNot, dIf, dAll, dCall, dMake, runArgs, gIsi, List.replicate, g, gNotInT, dLc, src, wipeD, lc, l2]
theorem v_l_runs {w : Wd} (hl : w.length ≤ 1000) : callV c_l_runs [wD w] = .ok (.val (.int (runsM w : Nat))) := by
  have ln : gLen [wD w] = .ok (.val (.int w.length)) := by
    have := bits_len (xs := w)
    have fz : w.length ≤ sizeLine := by unfold sizeLine; omega
    simp [gLen, this, fz]
  unfold runsM
  have src : srcR1 [.e (dAll gLen [.e (dVar 0)])] [some (.val (wD w)), none] = .ok ((List.range w.length).map fun (i : Nat) => D.int i) [some (.val (wD w)), none] := by
    have k1 : (w.length : Int) < 4611686018427387904 := by omega
    have k2 : -4611686018427387904 ≤ (w.length : Int) := by omega
    generalize wD w = z at *
    simp -implicitDefEqProofs [callC, ownsIn, backD, sRet, sSeq, sIf, sSet, sNil, sDrop, sRaise, dVar, dBin, dUn, dAnd, dOr, dNot, dIf, dAll, dCall, dMake, runArgs, gIsi, List.replicate, srcA, kR1, k1, k2, rangeD, ln]
  have lc := runLc_filG (vs := [1]) (tg := .name 1) (tt := ct_l_runs_0) (te := el_l_runs_0) (ρ := [some (.val (wD w)), none]) (g := fun (i : Nat) => D.int i) (f := fun (i : Nat) => D.int i) (b := fun i => (i == 0) || chg w i) (List.range w.length) [] (fun i hi => by
    have hi' : i < w.length := List.mem_range.mp hi
    have a := ix_w (w := w) (i := i) (c := i) rfl hi' hl
    refine ⟨[some (.val (wD w)), some (.val (.int i))], [some (.val (wD w)), some (.val (.int i))], rfl, ?_, rfl, [some (.val (wD w)), some (.val (.int i))], .val (.int i), ?_, rfl, rfl⟩
    · by_cases h0 : i = 0
      · subst h0
        generalize wD w = z at *
        simp -implicitDefEqProofs [callC, ownsIn, backD, sRet, sSeq, sIf, sSet, sNil, sDrop, sRaise, dVar, dBin, dUn, dAnd, dOr, dNot, dIf, dAll, dCall, dMake, runArgs, gIsi, List.replicate, ct_l_runs_0]
      · have b := ix_w (w := w) (i := i - 1) (c := (i : Int) - 1) (by omega) (by omega) hl
        have ne := gNe_bits (a := [w.getD i 0]) (b := [w.getD (i - 1) 0])
        have e0 : (i == 0) = false := by simp [h0]
        have e1 : ¬ (i : Int) = 0 := by omega
        rw [e0, Bool.false_or]
        unfold chg
        simp only [wD] at *
        generalize bitsS [w.getD i 0] = z1 at *
        generalize bitsS [w.getD (i - 1) 0] = z2 at *
        generalize bitsS w = z at *
        generalize (!decide ([w.getD i 0] = [w.getD (i - 1) 0])) = bb at *
        simp -implicitDefEqProofs [callC, ownsIn, backD, sRet, sSeq, sIf, sSet, sNil, sDrop, sRaise, dVar, dBin, dUn, dAnd, dOr, dNot, dIf, dAll, dCall, dMake, runArgs, gIsi, List.replicate, ct_l_runs_0, a, b, ne, e1, h0]
    · generalize wD w = z at *
      simp -implicitDefEqProofs [callC, ownsIn, backD, sRet, sSeq, sIf, sSet, sNil, sDrop, sRaise, dVar, dBin, dUn, dAnd, dOr, dNot, dIf, dAll, dCall, dMake, runArgs, gIsi, List.replicate, el_l_runs_0]) (by simp; unfold sizeLine; omega)
  rw [List.nil_append] at lc
  have l2 : gLen [.lst (((List.range w.length).filter fun i => (i == 0) || chg w i).map fun (i : Nat) => D.int i)] = .ok (.val (.int (((List.range w.length).filter fun i => (i == 0) || chg w i).length : Nat))) := by
    simp [gLen]
  generalize (((List.range w.length).filter fun i => (i == 0) || chg w i).length : Nat) = m at *
  generalize (((List.range w.length).filter fun i => (i == 0) || chg w i).map fun (i : Nat) => D.int i) = L at *
  simp only [wD] at *
  generalize bitsS w = z at *
  generalize (List.range w.length).map (fun (i : Nat) => D.int i) = L0 at *
  unfold callV c_l_runs b_l_runs
  generalize srcR1 [.e (dAll gLen [.e (dVar 0)])] = src1 at *
  simp -implicitDefEqProofs [callC, ownsIn, backD, sRet, sSeq, sIf, sSet, sNil, sDrop, sRaise, dVar, dBin, dUn, dAnd, dOr, dNot, dIf, dAll, dCall, dMake, runArgs, gIsi, List.replicate, dLc, src, wipeD, lc, l2]
end G

set_option maxRecDepth 100000
set_option maxHeartbeats 4000000
/-! Qkcosts: the law's search. -/
namespace G
open PySem PySem.Spec L2 DL
abbrev KV := List (Wd × Nat)
abbrev kOf (p : Wd × Nat) : Key := .inr (bitsS p.1)
abbrev vOf (p : Wd × Nat) : D := .int p.2
abbrev dicM (kv : KV) : M := .dic (kv.map kOf) (kv.map vOf)
/-- k xs, the list reckoned first -/
noncomputable def force {α β : Type} (xs : List α) (k : List α → β) : β := List.rec (motive := fun _ => (List α → β) → β) (fun k => k []) (fun x _ ih k => ih fun ys => k (x :: ys)) xs k
theorem force_eq {α β : Type} : ∀ (xs : List α) (k : List α → β), force xs k = k xs
  | [], _ => rfl
  | x :: xs, k => force_eq xs fun ys => k (x :: ys)
/-- a = b, in a form that the kernel reckons fast -/
noncomputable def eqW (a : Wd) : Wd → Bool :=
  List.rec (motive := fun _ => Wd → Bool) (fun b => List.rec (motive := fun _ => Bool) true (fun _ _ _ => false) b) (fun x _ ih b => List.rec (motive := fun _ => Bool) false (fun y ys _ => Bool.rec (motive := fun _ => Bool) false (ih ys) (Nat.beq x y)) b) a
theorem eqW_iff : ∀ (a b : Wd), eqW a b = true ↔ a = b
  | [], [] => ⟨fun _ => rfl, fun _ => rfl⟩
  | [], b :: bs => ⟨fun h => Bool.noConfusion h, fun h => by cases h⟩
  | a :: as, [] => ⟨fun h => Bool.noConfusion h, fun h => by cases h⟩
  | a :: as, b :: bs => by
    have e : eqW (a :: as) (b :: bs) = Bool.rec (motive := fun _ => Bool) false (eqW as bs) (Nat.beq a b) := rfl
    rw [e]
    have ih := eqW_iff as bs
    cases h : Nat.beq a b with
    | true =>
      have := Nat.eq_of_beq_eq_true h
      subst this
      show eqW as bs = true ↔ _
      rw [ih]
      simp
    | false =>
      have := Nat.ne_of_beq_eq_false h
      show false = true ↔ _
      simp [this]
noncomputable def look (kv : KV) (w : Wd) : Option Nat := List.rec (motive := fun _ => Option Nat) none (fun p _ r => Bool.rec (motive := fun _ => Option Nat) r (some p.2) (eqW p.1 w)) kv
theorem look_nil {w : Wd} : look [] w = none := rfl
theorem look_cons {p : Wd × Nat} {kv : KV} {w : Wd} : look (p :: kv) w = if p.1 = w then some p.2 else look kv w := by
  have e : look (p :: kv) w = Bool.rec (motive := fun _ => Option Nat) (look kv w) (some p.2) (eqW p.1 w) := rfl
  rw [e]
  have ih := eqW_iff p.1 w
  cases h : eqW p.1 w with
  | true => rw [if_pos (ih.mp h)]
  | false => rw [if_neg (fun q => by rw [ih.mpr q] at h; cases h)]
noncomputable def putM (kv : KV) (w : Wd) (c : Nat) : KV := if (look kv w).isSome then kv.map fun p => if p.1 = w then (p.1, c) else p else kv ++ [(w, c)]
theorem kOf_eq {p : Wd × Nat} {w : Wd} (h : p.1 = w) : kOf p = .inr (bitsS w) := congrArg (fun z => (Sum.inr (bitsS z) : Key)) h
theorem at_look {w : Wd} : ∀ kv : KV, dicAt (kv.map kOf) (kv.map vOf) (.inr (bitsS w)) = (look kv w).map fun c => D.int (c : Nat)
  | [] => rfl
  | p :: kv => by
    rw [List.map_cons, List.map_cons]
    rw [look_cons]
    unfold dicAt
    by_cases h : p.1 = w
    · rw [if_pos h, if_pos (kOf_eq h)]
      rfl
    · rw [if_neg h, if_neg (fun q => h (bits_inj.mp (Sum.inr.inj q)))]
      exact at_look kv
theorem any_look {w : Wd} : ∀ kv : KV, ((kv.map kOf).any fun j => decide (j = (.inr (bitsS w) : Key))) = (look kv w).isSome
  | [] => rfl
  | p :: kv => by
    rw [List.map_cons, List.any_cons, look_cons]
    by_cases h : p.1 = w
    · rw [if_pos h]
      have : decide (kOf p = (.inr (bitsS w) : Key)) = true := decide_eq_true (kOf_eq h)
      rw [this]
      rfl
    · rw [if_neg h]
      have : decide (kOf p = (.inr (bitsS w) : Key)) = false := decide_eq_false (fun q => h (bits_inj.mp (Sum.inr.inj q)))
      rw [this, Bool.false_or]
      exact any_look kv
theorem put1_map {w : Wd} {c : Nat} : ∀ kv : KV, put1 (kv.map kOf) (kv.map vOf) (.inr (bitsS w)) (.int c) = (kv.map fun p => if p.1 = w then (p.1, c) else p).map vOf
  | [] => rfl
  | p :: kv => by
    rw [List.map_cons, List.map_cons, List.map_cons, List.map_cons]
    unfold put1
    rw [put1_map kv]
    congr 1
    by_cases h : p.1 = w
    · rw [if_pos h, if_pos (kOf_eq h)]
    · rw [if_neg h, if_neg (fun q => h (bits_inj.mp (Sum.inr.inj q)))]
theorem keys_map {w : Wd} {c : Nat} : ∀ kv : KV, (kv.map fun p => if p.1 = w then (p.1, c) else p).map kOf = kv.map kOf
  | [] => rfl
  | p :: kv => by
    rw [List.map_cons, List.map_cons, List.map_cons, keys_map kv]
    congr 1
    split <;> rfl
theorem put_M {w : Wd} {c : Nat} (kv : KV) : (M.dic (keysPut (kv.map kOf) (.inr (bitsS w))) (valsPut (kv.map kOf) (kv.map vOf) (.inr (bitsS w)) (.int c))) = dicM (putM kv w c) := by
  unfold keysPut valsPut putM dicM
  rw [any_look]
  by_cases h : (look kv w).isSome = true
  · rw [if_pos h, if_pos h, if_pos h, put1_map, keys_map]
  · rw [if_neg h, if_neg h, if_neg h, List.map_append, List.map_append]
    rfl
/-! ### the search, checked as it goes -/
noncomputable def step1 (w : Wd) (st : KV × List Wd) (p : Pl) : Option (KV × List Wd) :=
  if p.1 ≤ p.2 ∧ p.2 ≤ w.length ∧ w.length ≤ 1000 then
    force (turnM p.1 p.2 w) fun o => match look st.1 o with
    | some _ => some st
    | none => match look st.1 w with
      | some c => if st.1.length ≤ 1000 ∧ st.2.length ≤ 1000 then force (putM st.1 o (c + 1)) fun kv => some (kv, st.2 ++ [o]) else none
      | none => none
  else none
noncomputable def stepW (ps : List Pl) (st : KV × List Wd) (w : Wd) : Option (KV × List Wd) := force w fun w => ps.foldlM (step1 w) st
noncomputable def levels (ps : List Pl) : Nat → KV → List Wd → Option KV
  | 0, _, _ => none
  | f + 1, kv, l => if l = [] then some kv else if (l.all fun w => w.all fun x => decide (x ≤ 1)) = true then (match l.foldlM (stepW ps) (kv, []) with
    | some st => levels ps f st.1 st.2
    | none => none) else none
noncomputable def firstM : KV → List Wd → Option KV
  | kv, [] => some kv
  | kv, w :: ws => if kv.length ≤ 1000 then force w fun w => force (putM kv w 0) fun kv => firstM kv ws else none
noncomputable def costsM (n g h : Nat) : Option KV :=
  match firstM [] ((wordsM n).filter (doneM h)) with
  | some kv => levels (placesM n g) 50 kv ((wordsM n).filter (doneM h))
  | none => none
/-! ### the search's steps -/
abbrev ρC (n : Nat) (g h : Str) (kv : KV) (ps : List Pl) (a6 : Option R) (w6 a7 s8 e9 o10 : Option R) : Slots :=
  [some (.val (.int n)), some (.val (.str g)), some (.val (.str h)), some (.own (dicM kv)), some (.val (.lst (ps.map pD))), a6, w6, a7, s8, e9, o10]
theorem c_step1 {n : Nat} {g h : Str} {ps : List Pl} {a5 o10 : Option R} {w : Wd} {st st' : KV × List Wd} {p : Pl} (hs : step1 w st p = some st') :
    ∃ o', bd_l_costs_1 (ρC n g h st.1 ps a5 (some (.val (wD w))) (some (.own (.lst (st.2.map wD)))) (some (.val (.int p.1))) (some (.val (.int p.2))) o10) = .nx (ρC n g h st'.1 ps a5 (some (.val (wD w))) (some (.own (.lst (st'.2.map wD)))) (some (.val (.int p.1))) (some (.val (.int p.2))) o') := by
  unfold step1 at hs
  split at hs
  · rename_i hc
    simp only [force_eq] at hs
    have t := v_l_turn hc.1 hc.2.1 hc.2.2
    have l1 := at_look (w := turnM p.1 p.2 w) st.1
    have l2 := at_look (w := w) st.1
    cases q : look st.1 (turnM p.1 p.2 w) with
    | some c0 =>
      rw [q] at hs l1
      cases hs
      refine ⟨some (.val (wD (turnM p.1 p.2 w))), ?_⟩
      simp only [ρC, dicM, wD] at *
      generalize bitsS (turnM p.1 p.2 w) = z at *
      generalize bitsS w = z0 at *
      generalize st.1.map kOf = ks at *
      generalize st.1.map vOf = xs at *
      generalize ps.map pD = PP at *
      generalize st.2.map wD = LL at *
      simp -implicitDefEqProofs [callC, ownsIn, backD, sRet, sSeq, sIf, sSet, sNil, sDrop, sRaise, dVar, dBin, dUn, dAnd, dOr, dNot, dIf, dAll, dCall, dMake, runArgs, gIsi, List.replicate, bd_l_costs_1, t, dDIn, keyD, l1]
    | none =>
      rw [q] at hs l1
      cases q2 : look st.1 w with
      | none => rw [q2] at hs; cases hs
      | some c =>
        rw [q2] at hs l2
        simp only at hs
        split at hs
        · rename_i hz
          cases hs
          have pm := put_M (w := turnM p.1 p.2 w) (c := c + 1) st.1
          have h1 : (st.1.map kOf).length < sizeLine := by rw [List.length_map]; unfold sizeLine; omega
          have h2 : (st.2.map wD).length < sizeLine := by rw [List.length_map]; unfold sizeLine; omega
          refine ⟨some (.val (wD (turnM p.1 p.2 w))), ?_⟩
          simp only [ρC]
          rw [← pm, List.map_append]
          simp only [dicM, wD, List.map_cons, List.map_nil, Int.natCast_add] at *
          generalize bitsS (turnM p.1 p.2 w) = z at *
          generalize bitsS w = z0 at *
          generalize st.1.map kOf = ks at *
          generalize st.1.map vOf = xs at *
          generalize ps.map pD = PP at *
          generalize st.2.map wD = LL at *
          simp -implicitDefEqProofs [callC, ownsIn, backD, sRet, sSeq, sIf, sSet, sNil, sDrop, sRaise, dVar, dBin, dUn, dAnd, dOr, dNot, dIf, dAll, dCall, dMake, runArgs, gIsi, List.replicate, bd_l_costs_1, t, dDIn, dDIx, keyD, l1, l2, DL.sDicPut, h1, h2, dAppend]
        · cases hs
  · cases hs
theorem c_places {n : Nat} {g h : Str} {ps : List Pl} {a5 : Option R} {w : Wd} : ∀ (qs : List Pl) (st st' : KV × List Wd) (s8 e9 o10 : Option R), qs.foldlM (step1 w) st = some st' →
    ∃ s' e' o', runFor (.tup (.cons (.name 8) (.cons (.name 9) .nil))) bd_l_costs_1 (qs.map pD) (ρC n g h st.1 ps a5 (some (.val (wD w))) (some (.own (.lst (st.2.map wD)))) s8 e9 o10) = .nx (ρC n g h st'.1 ps a5 (some (.val (wD w))) (some (.own (.lst (st'.2.map wD)))) s' e' o')
  | [], st, st', s8, e9, o10, hs => by
    cases hs
    exact ⟨s8, e9, o10, rfl⟩
  | q :: qs, st, st', s8, e9, o10, hs => by
    rw [List.foldlM_cons] at hs
    cases h1 : step1 w st q with
    | none => rw [h1] at hs; cases hs
    | some st1 =>
      rw [h1] at hs
      obtain ⟨o1, e1⟩ := c_step1 (n := n) (g := g) (h := h) (ps := ps) (a5 := a5) (o10 := o10) h1
      obtain ⟨s', e', o', e2⟩ := c_places qs st1 st' (some (.val (.int q.1))) (some (.val (.int q.2))) o1 hs
      refine ⟨s', e', o', ?_⟩
      rw [List.map_cons]
      unfold runFor
      have ea : (Tg.tup (.cons (.name 8) (.cons (.name 9) .nil))).asg (pD q) (ρC n g h st.1 ps a5 (some (.val (wD w))) (some (.own (.lst (st.2.map wD)))) s8 e9 o10) = some (ρC n g h st.1 ps a5 (some (.val (wD w))) (some (.own (.lst (st.2.map wD)))) (some (.val (.int q.1))) (some (.val (.int q.2))) o10) := rfl
      rw [ea]
      dsimp only
      rw [e1]
      exact e2
theorem c_word {n : Nat} {g h : Str} {ps : List Pl} {a5 : Option R} {w : Wd} {st st' : KV × List Wd} {s8 e9 o10 : Option R} (hs : stepW ps st w = some st') :
    ∃ s' e' o', bd_l_costs_2 (ρC n g h st.1 ps a5 (some (.val (wD w))) (some (.own (.lst (st.2.map wD)))) s8 e9 o10) = .nx (ρC n g h st'.1 ps a5 (some (.val (wD w))) (some (.own (.lst (st'.2.map wD)))) s' e' o') := by
  unfold stepW at hs
  rw [force_eq] at hs
  obtain ⟨s', e', o', e⟩ := c_places (n := n) (g := g) (h := h) (ps := ps) (a5 := a5) (w := w) ps st st' s8 e9 o10 hs
  refine ⟨s', e', o', ?_⟩
  exact sFor_of (src := srcOf gLstI (dVar 4)) rfl e
theorem c_layer {n : Nat} {g h : Str} {ps : List Pl} {a5 : Option R} : ∀ (l : List Wd) (st st' : KV × List Wd) (w6 s8 e9 o10 : Option R), l.foldlM (stepW ps) st = some st' →
    ∃ w' s' e' o', runFor (.name 6) bd_l_costs_2 (l.map wD) (ρC n g h st.1 ps a5 w6 (some (.own (.lst (st.2.map wD)))) s8 e9 o10) = .nx (ρC n g h st'.1 ps a5 w' (some (.own (.lst (st'.2.map wD)))) s' e' o')
  | [], st, st', w6, s8, e9, o10, hs => by
    cases hs
    exact ⟨w6, s8, e9, o10, rfl⟩
  | w :: l, st, st', w6, s8, e9, o10, hs => by
    rw [List.foldlM_cons] at hs
    cases h1 : stepW ps st w with
    | none => rw [h1] at hs; cases hs
    | some st1 =>
      rw [h1] at hs
      obtain ⟨s1, x1, o1, e1⟩ := c_word (n := n) (g := g) (h := h) (ps := ps) (a5 := a5) (s8 := s8) (e9 := e9) (o10 := o10) h1
      obtain ⟨w', s', e', o', e2⟩ := c_layer l st1 st' (some (.val (wD w))) s1 x1 o1 hs
      refine ⟨w', s', e', o', ?_⟩
      rw [List.map_cons]
      unfold runFor
      have ea : (Tg.name 6).asg (wD w) (ρC n g h st.1 ps a5 w6 (some (.own (.lst (st.2.map wD)))) s8 e9 o10) = some (ρC n g h st.1 ps a5 (some (.val (wD w))) (some (.own (.lst (st.2.map wD)))) s8 e9 o10) := rfl
      rw [ea]
      dsimp only
      rw [e1]
      exact e2
theorem c_body {n : Nat} {g h : Str} {ps : List Pl} {l : List Wd} {kv : KV} {st : KV × List Wd} {w6 a7 s8 e9 o10 : Option R} (hs : l.foldlM (stepW ps) (kv, []) = some st) :
    ∃ w' a' s' e' o', bd_l_costs_3 (ρC n g h kv ps (some (.val (.lst (l.map wD)))) w6 a7 s8 e9 o10) = .nx (ρC n g h st.1 ps (some (.val (.lst (st.2.map wD)))) w' a' s' e' o') := by
  obtain ⟨w', s', e', o', e⟩ := c_layer (n := n) (g := g) (h := h) (ps := ps) (a5 := some (.val (.lst (l.map wD)))) l (kv, []) st w6 s8 e9 o10 hs
  have f := sFor_of (src := srcOf gLstI (dVar 5)) (tg := .name 6) (body := bd_l_costs_2) (ρ := ρC n g h kv ps (some (.val (.lst (l.map wD)))) w6 (some (.own (.lst []))) s8 e9 o10) rfl e
  refine ⟨w', some (.val (.lst (st.2.map wD))), s', e', o', ?_⟩
  unfold bd_l_costs_3
  simp only [ρC] at *
  generalize sFor (srcOf gLstI (dVar 5)) (.name 6) bd_l_costs_2 = F at *
  generalize dicM kv = m at *
  generalize dicM st.1 = m' at *
  generalize ps.map pD = PP at *
  generalize l.map wD = LL at *
  generalize st.2.map wD = L2 at *
  simp -implicitDefEqProofs [callC, ownsIn, backD, sRet, sSeq, sIf, sSet, sNil, sDrop, sRaise, dVar, dBin, dUn, dAnd, dOr, dNot, dIf, dAll, dCall, dMake, runArgs, gIsi, List.replicate, f]
theorem ok_wD {w : Wd} (h : Bits w) : okd 63 (wD w) = true := by
  have h : ∀ c ∈ (bitsS w).cps.toList, c < 1114112 := fun c hc => by
    rw [bits_toList] at hc
    obtain ⟨x, h1, rfl⟩ := List.mem_map.mp hc
    have := h x h1
    omega
  have e : (bitsS w).cps.all (· < 1114112) = true := by
    rw [← Array.all_toList, List.all_eq_true]
    exact fun c hc => decide_eq_true (h c hc)
  simp only [wD, okd, PyData.canLay0]
  exact e
theorem gNe_wds {l : List Wd} (h : ∀ w ∈ l, Bits w) : gNe (.lst (l.map wD)) (.lst []) = .ok (.val (.bl (!decide (l = [])))) := by
  have o : okd 64 (.lst (l.map wD)) = true := by
    simp only [okd]
    exact okdL_of fun x hx => by obtain ⟨i, hi, rfl⟩ := List.mem_map.mp hx; exact ok_wD (h i hi)
  have b : bf (.lst (l.map wD)) = true := by
    simp only [bf]
    exact bfL_of fun x hx => by obtain ⟨i, _, rfl⟩ := List.mem_map.mp hx; simp [bf]
  have e := gEq_dec (x := .lst (l.map wD)) (y := .lst []) o (by simp [okd, okdL]) b (by simp [bf, bfL])
  unfold gNe
  rw [e]
  cases l <;> simp [VRes.not]
theorem c_while {n : Nat} {g h : Str} {ps : List Pl} {kv' : KV} : ∀ (f fuel : Nat) (kv : KV) (l : List Wd) (w6 a7 s8 e9 o10 : Option R), levels ps f kv l = some kv' → f ≤ fuel →
    ∃ a5 w' a' s' e' o', runWhile wt_l_costs_0 bd_l_costs_3 fuel (ρC n g h kv ps (some (.val (.lst (l.map wD)))) w6 a7 s8 e9 o10) = .nx (ρC n g h kv' ps a5 w' a' s' e' o')
  | 0, _, _, _, _, _, _, _, _, hs, _ => by cases hs
  | f + 1, 0, _, _, _, _, _, _, _, _, hf => by omega
  | f + 1, fuel + 1, kv, l, w6, a7, s8, e9, o10, hs, hf => by
    unfold levels at hs
    unfold runWhile
    cases l with
    | nil =>
      rw [if_pos rfl] at hs
      cases hs
      refine ⟨some (.val (.lst [])), w6, a7, s8, e9, o10, ?_⟩
      have wt : wt_l_costs_0 (ρC n g h kv' ps (some (.val (.lst (([] : List Wd).map wD)))) w6 a7 s8 e9 o10) = .ok (.val (.bl false)) (ρC n g h kv' ps (some (.val (.lst []))) w6 a7 s8 e9 o10) := by
        simp only [ρC]
        generalize dicM kv' = m
        generalize ps.map pD = PP
        simp -implicitDefEqProofs [callC, ownsIn, backD, sRet, sSeq, sIf, sSet, sNil, sDrop, sRaise, dVar, dBin, dUn, dAnd, dOr, dNot, dIf, dAll, dCall, dMake, runArgs, gIsi, List.replicate, wt_l_costs_0]
      rw [wt]
      rfl
    | cons w l =>
      rw [if_neg (by simp)] at hs
      split at hs
      case isFalse => cases hs
      rename_i hb
      have bits : ∀ v ∈ w :: l, Bits v := fun v hv x hx => by
        have h1 := List.all_eq_true.mp hb v hv
        exact of_decide_eq_true (List.all_eq_true.mp h1 x hx)
      have ne := gNe_wds bits
      have wt : wt_l_costs_0 (ρC n g h kv ps (some (.val (.lst ((w :: l).map wD)))) w6 a7 s8 e9 o10) = .ok (.val (.bl true)) (ρC n g h kv ps (some (.val (.lst ((w :: l).map wD)))) w6 a7 s8 e9 o10) := by
        have dn : (!decide (w :: l = [])) = true := by simp
        rw [dn] at ne
        simp only [ρC]
        generalize dicM kv = m
        generalize ps.map pD = PP
        generalize (w :: l).map wD = LL at *
        simp -implicitDefEqProofs [callC, ownsIn, backD, sRet, sSeq, sIf, sSet, sNil, sDrop, sRaise, dVar, dBin, dUn, dAnd, dOr, dNot, dIf, dAll, dCall, dMake, runArgs, gIsi, List.replicate, wt_l_costs_0, ne]
      rw [wt]
      cases h1 : (w :: l).foldlM (stepW ps) (kv, []) with
      | none => rw [h1] at hs; cases hs
      | some st =>
        rw [h1] at hs
        obtain ⟨w1, a1, s1, x1, o1, e1⟩ := c_body (n := n) (g := g) (h := h) (w6 := w6) (a7 := a7) (s8 := s8) (e9 := e9) (o10 := o10) h1
        obtain ⟨a5, w', a', s', e', o', e2⟩ := c_while (n := n) (g := g) (h := h) f fuel st.1 st.2 w1 a1 s1 x1 o1 hs (by omega)
        refine ⟨a5, w', a', s', e', o', ?_⟩
        show (match bd_l_costs_3 (ρC n g h kv ps (some (.val (.lst ((w :: l).map wD)))) w6 a7 s8 e9 o10) with
          | .nx ρ2 => runWhile wt_l_costs_0 bd_l_costs_3 fuel ρ2
          | .ct ρ2 => runWhile wt_l_costs_0 bd_l_costs_3 fuel ρ2
          | .bk ρ2 => .nx ρ2
          | .rt r ρ2 => .rt r ρ2
          | .exc x ρ2 => .exc x ρ2
          | .bad => .bad) = _
        rw [e1]
        exact e2
theorem c_first {n : Nat} {g h : Str} {ps : List Pl} {a5 : Option R} {a7 s8 e9 o10 : Option R} {kv' : KV} : ∀ (ws : List Wd) (kv : KV) (w6 : Option R), firstM kv ws = some kv' →
    ∃ w', runFor (.name 6) bd_l_costs_0 (ws.map wD) (ρC n g h kv ps a5 w6 a7 s8 e9 o10) = .nx (ρC n g h kv' ps a5 w' a7 s8 e9 o10)
  | [], kv, w6, hs => by
    cases hs
    exact ⟨w6, rfl⟩
  | w :: ws, kv, w6, hs => by
    unfold firstM at hs
    split at hs
    · rename_i hz
      simp only [force_eq] at hs
      obtain ⟨w', e2⟩ := c_first ws _ (some (.val (wD w))) hs
      refine ⟨w', ?_⟩
      rw [List.map_cons]
      unfold runFor
      have ea : (Tg.name 6).asg (wD w) (ρC n g h kv ps a5 w6 a7 s8 e9 o10) = some (ρC n g h kv ps a5 (some (.val (wD w))) a7 s8 e9 o10) := rfl
      rw [ea]
      dsimp only
      have e1 : bd_l_costs_0 (ρC n g h kv ps a5 (some (.val (wD w))) a7 s8 e9 o10) = .nx (ρC n g h (putM kv w 0) ps a5 (some (.val (wD w))) a7 s8 e9 o10) := by
        have pm := put_M (w := w) (c := 0) kv
        have h1 : (kv.map kOf).length < sizeLine := by rw [List.length_map]; unfold sizeLine; omega
        have z0 : ((0 : Nat) : Int) = 0 := rfl
        rw [z0] at pm
        simp only [ρC]
        rw [← pm]
        simp only [dicM, wD] at *
        generalize bitsS w = z0 at *
        generalize kv.map kOf = ks at *
        generalize kv.map vOf = xs at *
        generalize ps.map pD = PP at *
        simp -implicitDefEqProofs [callC, ownsIn, backD, sRet, sSeq, sIf, sSet, sNil, sDrop, sRaise, dVar, dBin, dUn, dAnd, dOr, dNot, dIf, dAll, dCall, dMake, runArgs, gIsi, List.replicate, bd_l_costs_0, DL.sDicPut, keyD, h1]
      rw [e1]
      exact e2
    · cases hs
theorem v_l_costs {n g h : Nat} {kv : KV} (hn : n ≤ 8) (hg : g ≤ 2) (hh : h ≤ 1) (hs : costsM n g h = some kv) : callV c_l_costs [.int n, .str (gS g), .str (hS h)] = .ok (.val (.dif (kv.map kOf) (kv.map vOf))) := by
  unfold costsM at hs
  split at hs
  case h_2 => cases hs
  rename_i kv0 h0
  have pl := v_l_places (n := n) (g := g) hn hg
  have wl := v_l_words (n := n) hn
  have lc := runLc_filG (vs := [6]) (tg := .name 6) (tt := ct_l_costs_0) (te := el_l_costs_0) (ρ := ρC n (gS g) (hS h) [] (placesM n g) none none none none none none) (g := wD) (f := wD) (b := doneM h) (wordsM n) [] (fun w hw => by
    have lw := words_len n w hw
    have d := v_l_done (h := h) (w := w) hh (by omega)
    refine ⟨ρC n (gS g) (hS h) [] (placesM n g) none (some (.val (wD w))) none none none none, ρC n (gS g) (hS h) [] (placesM n g) none (some (.val (wD w))) none none none none, rfl, ?_, rfl, ρC n (gS g) (hS h) [] (placesM n g) none (some (.val (wD w))) none none none none, .val (wD w), ?_, rfl, rfl⟩
    · simp only [ρC, wD] at *
      generalize bitsS w = z at *
      generalize (placesM n g).map pD = PP at *
      generalize gS g = y at *
      generalize hS h = x at *
      generalize dicM [] = m at *
      simp -implicitDefEqProofs [callC, ownsIn, backD, sRet, sSeq, sIf, sSet, sNil, sDrop, sRaise, dVar, dBin, dUn, dAnd, dOr, dNot, dIf, dAll, dCall, dMake, runArgs, gIsi, List.replicate, ct_l_costs_0, d]
    · simp only [ρC, wD] at *
      generalize bitsS w = z at *
      generalize (placesM n g).map pD = PP at *
      generalize gS g = y at *
      generalize hS h = x at *
      generalize dicM [] = m at *
      simp -implicitDefEqProofs [callC, ownsIn, backD, sRet, sSeq, sIf, sSet, sNil, sDrop, sRaise, dVar, dBin, dUn, dAnd, dOr, dNot, dIf, dAll, dCall, dMake, runArgs, gIsi, List.replicate, el_l_costs_0]) (by rw [List.length_nil, words_many]; have : 2 ^ n ≤ 2 ^ 8 := Nat.pow_le_pow_right (by omega) hn; unfold sizeLine; omega)
  rw [List.nil_append] at lc
  obtain ⟨w1, e1⟩ := c_first (n := n) (g := gS g) (h := hS h) (ps := placesM n g) (a5 := some (.val (.lst (((wordsM n).filter (doneM h)).map wD)))) (a7 := none) (s8 := none) (e9 := none) (o10 := none) ((wordsM n).filter (doneM h)) [] none h0
  have f1 := sFor_of (src := srcOf gLstI (dVar 5)) (tg := .name 6) (body := bd_l_costs_0) (ρ := ρC n (gS g) (hS h) [] (placesM n g) (some (.own (.lst (((wordsM n).filter (doneM h)).map wD)))) none none none none none) rfl e1
  obtain ⟨a5, w', a', s', e', o', e2⟩ := c_while (n := n) (g := gS g) (h := hS h) 50 10000 kv0 ((wordsM n).filter (doneM h)) w1 none none none none hs (by omega)
  simp only [ρC, dicM, List.map_nil] at *
  generalize hL : ((wordsM n).filter (doneM h)).map wD = L at *
  generalize (wordsM n).map wD = LW at *
  generalize (placesM n g).map pD = PP at *
  generalize gS g = y at *
  generalize hS h = x at *
  generalize kv.map kOf = ks at *
  generalize kv.map vOf = vs at *
  generalize kv0.map kOf = ks0 at *
  generalize kv0.map vOf = vs0 at *
  unfold callV c_l_costs b_l_costs
  generalize sFor (srcOf gLstI (dVar 5)) (.name 6) bd_l_costs_0 = F1 at *
  generalize runWhile wt_l_costs_0 bd_l_costs_3 10000 = F2 at *
  simp -implicitDefEqProofs [callC, ownsIn, backD, sRet, sSeq, sIf, sSet, sNil, sDrop, sRaise, dVar, dBin, dUn, dAnd, dOr, dNot, dIf, dAll, dCall, dMake, runArgs, gIsi, List.replicate, sPar, runRs, putAll, dNewDic, pl, wl, dLc, srcOf, gLstI, wipeD, lc, f1, e2, dVarL]
end G

set_option maxRecDepth 100000
set_option maxHeartbeats 4000000
/-! Qdiv: choices and divisions. -/
namespace G
open PySem PySem.Spec L2 DL
def ch : Nat → Nat → Nat
  | _, 0 => 1
  | 0, _ + 1 => 0
  | m + 1, k + 1 => ch m k + ch m (k + 1)
theorem ch_0 (m : Nat) : ch m 0 = 1 := by cases m <;> rfl
theorem ch_step : ∀ m k : Nat, (k + 1) * ch m (k + 1) + k * ch m k = m * ch m k
  | 0, 0 => rfl
  | 0, k + 1 => by simp [ch]
  | m + 1, 0 => by
    have ih := ch_step m 0
    simp only [ch, ch_0] at ih ⊢
    omega
  | m + 1, j + 1 => by
    have h1 := ch_step m j
    have h2 := ch_step m (j + 1)
    simp only [ch]
    simp only [Nat.add_mul, Nat.mul_add, Nat.one_mul] at h1 h2 ⊢
    omega
theorem ch_out : ∀ {m k : Nat}, m < k → ch m k = 0
  | 0, k + 1, _ => rfl
  | m + 1, k + 1, h => by
    show ch m k + ch m (k + 1) = 0
    rw [ch_out (by omega : m < k), ch_out (by omega : m < k + 1)]
def Dv : Nat → Nat → Nat
  | 0, 0 => 1
  | 0, _ + 1 => 0
  | _ + 1, 0 => 0
  | m + 1, k + 1 => ch m k
theorem Dv_rec : ∀ m k : Nat, Dv (m + 1) (k + 1) = Dv m k + Dv m (k + 1)
  | 0, 0 => rfl
  | 0, k + 1 => rfl
  | m + 1, 0 => by simp [Dv, ch_0]
  | m + 1, k + 1 => rfl
theorem Dv_out {m k : Nat} (h : m < k) : Dv m k = 0 := by
  cases m with
  | zero => cases k with
    | zero => omega
    | succ k => rfl
  | succ m => cases k with
    | zero => omega
    | succ k => exact ch_out (by omega)
/-- the first m values of a function, as data -/
abbrev tabL (F : Nat → Nat) (m : Nat) : List D := nL ((List.range m).map F)
theorem ix_tab {F : Nat → Nat} {m k : Nat} {c : Int} (hc : c = k) (h : k < m) : gIx (.lst (tabL F m)) (.int c) = .ok (.val (.int (F k))) := by
  subst hc
  have hx : ixN (tabL F m).length (k : Int) = some k := by
    unfold ixN
    rw [if_pos (by omega), if_pos (by simp [nL]; omega)]
    simp
  simp only [gIx, atI]
  rw [hx]
  simp [nL, nD, h]
theorem at_lastL {l : List Nat} {n : Nat} : atI (nL (l ++ [n])) (-1) = some (.int n) := by
  have h : ixN (nL (l ++ [n])).length (-1) = some l.length := by simp [ixN]; omega
  unfold atI
  rw [h, nL_app]
  show (nL l ++ nL [n])[l.length]? = _
  rw [List.getElem?_append_right (by simp)]
  simp
theorem ch_div {t i : Nat} (h : i ≤ t) : ch t i * (t - i) / (i + 1) = ch t (i + 1) := by
  have s := ch_step t i
  have e : ch t i * (t - i) = ch t (i + 1) * (i + 1) := by
    have h1 : ch t i * (t - i) + i * ch t i = t * ch t i := by
      rw [Nat.mul_comm i, ← Nat.mul_add, Nat.sub_add_cancel h, Nat.mul_comm]
    have h2 : ch t (i + 1) * (i + 1) = (i + 1) * ch t (i + 1) := Nat.mul_comm _ _
    omega
  rw [e, Nat.mul_div_cancel _ (by omega)]
theorem choices_step {t i : Nat} {w : Option R} (h : i < t) (ht : t ≤ 5000) : bd_choices_0 [some (.val (.int t)), some (.own (.lst (tabL (ch t) (i + 1)))), some (.val (.int i))] = .nx [some (.val (.int t)), some (.own (.lst (tabL (ch t) (i + 2)))), some (.val (.int i))] := by
  have e1 : (List.range (i + 1)).map (ch t) = (List.range i).map (ch t) ++ [ch t i] := by rw [List.range_succ, List.map_append]; rfl
  have e2 : tabL (ch t) (i + 2) = tabL (ch t) (i + 1) ++ [.int (ch t (i + 1))] := by
    unfold tabL
    rw [List.range_succ, List.map_append, nL_app]
    rfl
  have a : atI (tabL (ch t) (i + 1)) (-1) = some (.int (ch t i : Nat)) := by
    unfold tabL
    rw [e1]
    exact at_lastL
  have s : (t : Int) - i = ((t - i : Nat) : Int) := by omega
  have m : gMul (.int (ch t i : Nat)) (.int ((t - i : Nat) : Int)) = .ok (.val (.int ((ch t i : Nat) * ((t - i : Nat) : Int)))) := gMul_int (by simp only [mulOk]; simp; omega)
  have d : gFdiv (.int ((ch t i : Nat) * ((t - i : Nat) : Int))) (.int ((i : Int) + 1)) = .ok (.val (.int (ch t (i + 1) : Nat))) := by
    rw [gFdiv_int (by omega) (by
      have : ((i : Int) + 1).natAbs = i + 1 := by omega
      rw [this]
      exact small_log (Nat.lt_of_lt_of_le (show i + 1 < 2 ^ 13 by omega) (Nat.pow_le_pow_right (by decide) (by decide))))]
    have e : ((ch t i : Nat) : Int) * ((t - i : Nat) : Int) / ((i : Int) + 1) = ((ch t i * (t - i) / (i + 1) : Nat) : Int) := by
      rw [Int.natCast_ediv, Int.natCast_mul]
      rfl
    rw [e, ch_div (by omega)]
  have hz : (tabL (ch t) (i + 1)).length < sizeLine := by simp [nL]; unfold sizeLine; omega
  rw [e2]
  generalize tabL (ch t) (i + 1) = L at *
  simp -implicitDefEqProofs [callC, ownsIn, backD, sRet, sSeq, sIf, sSet, sNil, sDrop, sRaise, dVar, dBin, dUn, dAnd, dOr, dNot, dIf, dAll, dCall, dMake, runArgs, gIsi, List.replicate, bd_choices_0, dAppend, dIxO, a, s, m, d, hz]
theorem tab_len {F : Nat → Nat} {m : Nat} : (tabL F m).length = m := by simp [nL]
theorem choices_src {t : Nat} (ht : t ≤ 5000) {b c : Option R} : srcR1 [.e (dVar 0)] [some (.val (.int t)), b, c] = .ok (rangeD 0 t) [some (.val (.int t)), b, c] := by
  have k1 : (t : Int) < 4611686018427387904 := by omega
  have k2 : -4611686018427387904 ≤ (t : Int) := by omega
  simp -implicitDefEqProofs [callC, ownsIn, backD, sRet, sSeq, sIf, sSet, sNil, sDrop, sRaise, dVar, dBin, dUn, dAnd, dOr, dNot, dIf, dAll, dCall, dMake, runArgs, gIsi, List.replicate, srcA, kR1, k1, k2]
theorem v_choices {t : Nat} (ht : t ≤ 5000) : callV c_choices [.int t] = .ok (.val (.lst (tabL (ch t) (t + 1)))) := by
  obtain ⟨ρ', e1, e2⟩ := runFor_inv (tg := .name 2) (body := bd_choices_0) (fun i ρ => i ≤ t → ∃ w, ρ = [some (.val (.int t)), some (.own (.lst (tabL (ch t) (i + 1)))), w]) (rangeD 0 t) 0 [some (.val (.int t)), some (.own (.lst (tabL (ch t) 1))), none] (fun _ => ⟨none, rfl⟩) (fun j x ρ hj h => by
    have hj' : j < t := by
      have := (List.getElem?_eq_some_iff.mp hj).1
      simpa [rangeD] using this
    have hx : x = .int (j : Int) := by
      simp [rangeD, hj'] at hj
      exact hj.symm
    subst hx
    obtain ⟨w, rfl⟩ := h (by omega)
    rw [Nat.zero_add]
    exact ⟨[some (.val (.int t)), some (.own (.lst (tabL (ch t) (j + 1)))), some (.val (.int j))], _, rfl, choices_step (w := w) hj' ht, fun _ => ⟨_, rfl⟩⟩)
  · have hz : (rangeD 0 t).length = t := by simp [rangeD]
    rw [hz, Nat.zero_add] at e2
    obtain ⟨w, rfl⟩ := e2 (Nat.le_refl _)
    have e3 : tabL (ch t) 1 = [.int 1] := by simp [nL, nD, ch_0]
    rw [e3] at e1
    have s := choices_src ht (b := some (.own (.lst [.int 1]))) (c := none)
    have f := sFor_of s e1
    generalize tabL (ch t) (t + 1) = L at *
    unfold callV c_choices b_choices
    generalize sFor (srcR1 [.e (dVar 0)]) (.name 2) bd_choices_0 = st at *
    simp -implicitDefEqProofs [callC, ownsIn, backD, sRet, sSeq, sIf, sSet, sNil, sDrop, sRaise, dVar, dBin, dUn, dAnd, dOr, dNot, dIf, dAll, dCall, dMake, runArgs, gIsi, List.replicate, f]
theorem tab_cut {F : Nat → Nat} {a b : Nat} : (tabL F a).take b = tabL F (min b a) := by
  unfold tabL nL
  rw [List.map_map, ← List.map_take, List.take_range, List.map_map]
theorem tab_pad {F : Nat → Nat} {a b : Nat} (h : ∀ k, a ≤ k → F k = 0) : tabL F (min b a) ++ List.replicate (b - a) (D.int 0) = tabL F b := by
  apply List.ext_getElem?
  intro k
  rcases Nat.lt_or_ge k (min b a) with h1 | h1
  · rw [List.getElem?_append_left (by rw [tab_len]; exact h1)]
    have h2 : k < b := by omega
    simp [nL, nD, h1, h2]
  · rw [List.getElem?_append_right (by rw [tab_len]; exact h1), tab_len]
    rcases Nat.lt_or_ge k b with h2 | h2
    · have h3 : k - min b a < b - a := by omega
      have h4 : F k = 0 := h k (by omega)
      simp [nL, nD, h2, h3, h4]
    · have h3 : ¬ k - min b a < b - a := by omega
      have h4 : ¬ k < b := by omega
      simp [nL, nD, h3, h4]
theorem Dv_tab (m : Nat) : D.int 0 :: tabL (ch m) (m + 1) = tabL (Dv (m + 1)) (m + 2) := by
  unfold tabL
  rw [List.range_succ_eq_map (n := m + 1), List.map_cons, List.map_map, nL_cons]
  rfl
theorem v_divisions {n m : Nat} (hn : n ≤ 4000) (hm : m ≤ 4000) : callV c_divisions [.int n, .int m] = .ok (.own (.lst (tabL (Dv n) (m + 1)))) := by
  cases n with
  | zero =>
    have lc := runLc_mapG (vs := [3]) (tg := .name 3) (te := el_divisions_0) (ρ := [some (.val (.int 0)), some (.val (.int m)), none, none]) (g := fun (i : Nat) => D.int (0 + (i : Int))) (f := fun _ => D.int 0) (List.range m) [] (fun i hi => ⟨[some (.val (.int 0)), some (.val (.int m)), none, some (.val (.int (0 + (i : Int))))], [some (.val (.int 0)), some (.val (.int m)), none, some (.val (.int (0 + (i : Int))))], .val (.int 0), rfl, by simp -implicitDefEqProofs [callC, ownsIn, backD, sRet, sSeq, sIf, sSet, sNil, sDrop, sRaise, dVar, dBin, dUn, dAnd, dOr, dNot, dIf, dAll, dCall, dMake, runArgs, gIsi, List.replicate, el_divisions_0], rfl, rfl⟩) (by unfold sizeLine; simp; omega)
    have e3 : (List.range m).map (fun (i : Nat) => D.int (0 + (i : Int))) = rangeD 0 m := rfl
    have e4 : (List.range m).map (fun _ => D.int 0) = List.replicate m (D.int 0) := by rw [List.map_const', List.length_range]
    rw [e3, e4, List.nil_append] at lc
    have src : srcR1 [.e (dVar 1)] [some (.val (.int 0)), some (.val (.int m)), none, none] = .ok (rangeD 0 m) [some (.val (.int 0)), some (.val (.int m)), none, none] := by
      have k1 : (m : Int) < 4611686018427387904 := by omega
      have k2 : -4611686018427387904 ≤ (m : Int) := by omega
      simp -implicitDefEqProofs [callC, ownsIn, backD, sRet, sSeq, sIf, sSet, sNil, sDrop, sRaise, dVar, dBin, dUn, dAnd, dOr, dNot, dIf, dAll, dCall, dMake, runArgs, gIsi, List.replicate, srcA, kR1, k1, k2]
    have e5 : D.int 1 :: List.replicate m (D.int 0) = tabL (Dv 0) (m + 1) := by
      have := tab_pad (F := Dv 0) (a := 1) (b := m + 1) (fun k hk => Dv_out (by omega))
      rw [show min (m + 1) 1 = 1 by omega, show m + 1 - 1 = m by omega] at this
      rw [← this]
      rfl
    have gl : DL.gLst (D.int 1 :: List.replicate m (D.int 0)) = .ok (.own (.lst (tabL (Dv 0) (m + 1)))) := by
      rw [← e5]
      exact gLst_ok (by simp only [List.length_cons, List.length_replicate]; unfold sizeLine; omega)
    generalize List.replicate m (D.int 0) = xs at *
    generalize tabL (Dv 0) (m + 1) = L at *
    unfold callV c_divisions b_divisions
    generalize srcR1 [.e (dVar 1)] = src1 at *
    simp only [Int.natCast_zero, Int.ofNat_zero, Int.cast_ofNat_Int] at *
    simp -implicitDefEqProofs [callC, ownsIn, backD, sRet, sSeq, sIf, sSet, sNil, sDrop, sRaise, dVar, dBin, dUn, dAnd, dOr, dNot, dIf, dAll, dCall, dMake, runArgs, gIsi, List.replicate, dAllS, runS, dLc, src, wipeD, lc, gl]
  | succ n =>
    have c := v_choices (t := n) (by omega)
    have g1 : DL.gLst (D.int 0 :: tabL (ch n) (n + 1)) = .ok (.own (.lst (tabL (Dv (n + 1)) (n + 2)))) := by
      rw [Dv_tab]
      exact gLst_ok (by rw [tab_len]; unfold sizeLine; omega)
    have len : (tabL (Dv (n + 1)) (n + 2)).length = n + 2 := tab_len
    have ct : cutD (tabL (Dv (n + 1)) (n + 2)) none (some ((m : Int) + 1)) = tabL (Dv (n + 1)) (min (m + 1) (n + 2)) := by
      have e : (m : Int) + 1 = ((m + 1 : Nat) : Int) := by omega
      rw [e]
      unfold cutD
      rw [HT.sIx_nat, HT.sIx_none, len]
      simp only [List.drop_zero, Nat.sub_zero]
      rw [tab_cut, show min (min (m + 1) (n + 2)) (n + 2) = min (m + 1) (n + 2) by omega]
    have lc := runLc_mapG (vs := [3]) (tg := .name 3) (te := el_divisions_1) (ρ := [some (.val (.int ((n : Int) + 1))), some (.val (.int m)), some (.val (.lst (tabL (Dv (n + 1)) (n + 2)))), none]) (g := fun (i : Nat) => D.int (0 + (i : Int))) (f := fun _ => D.int 0) (List.range (m + 1 - (n + 2))) [] (fun i hi => ⟨[some (.val (.int ((n : Int) + 1))), some (.val (.int m)), some (.val (.lst (tabL (Dv (n + 1)) (n + 2)))), some (.val (.int (0 + (i : Int))))], [some (.val (.int ((n : Int) + 1))), some (.val (.int m)), some (.val (.lst (tabL (Dv (n + 1)) (n + 2)))), some (.val (.int (0 + (i : Int))))], .val (.int 0), rfl, by simp -implicitDefEqProofs [callC, ownsIn, backD, sRet, sSeq, sIf, sSet, sNil, sDrop, sRaise, dVar, dBin, dUn, dAnd, dOr, dNot, dIf, dAll, dCall, dMake, runArgs, gIsi, List.replicate, el_divisions_1], rfl, rfl⟩) (by unfold sizeLine; simp; omega)
    have e3 : (List.range (m + 1 - (n + 2))).map (fun (i : Nat) => D.int (0 + (i : Int))) = rangeD 0 (m + 1 - (n + 2)) := rfl
    have e4 : (List.range (m + 1 - (n + 2))).map (fun _ => D.int 0) = List.replicate (m + 1 - (n + 2)) (D.int 0) := by rw [List.map_const', List.length_range]
    rw [e3, e4, List.nil_append] at lc
    have pad := tab_pad (F := Dv (n + 1)) (a := n + 2) (b := m + 1) (fun k hk => Dv_out (by omega))
    have g2 : gAdd (.lst (tabL (Dv (n + 1)) (min (m + 1) (n + 2)))) (.lst (List.replicate (m + 1 - (n + 2)) (D.int 0))) = .ok (.own (.lst (tabL (Dv (n + 1)) (m + 1)))) := by
      rw [← pad]
      exact gAdd_lst (by rw [tab_len, List.length_replicate]; unfold sizeLine; omega)
    have gl : gLen [.lst (tabL (Dv (n + 1)) (n + 2))] = .ok (.val (.int ((n : Int) + 2))) := by
      have e : ((n : Int) + 2) = ((tabL (Dv (n + 1)) (n + 2)).length : Nat) := by rw [len]; rfl
      rw [e]
      rfl
    have sl : gSl (.lst (tabL (Dv (n + 1)) (n + 2))) none (some ((m : Int) + 1)) = .ok (.own (.lst (tabL (Dv (n + 1)) (min (m + 1) (n + 2))))) := by
      rw [← ct]
      rfl
    generalize tabL (Dv (n + 1)) (min (m + 1) (n + 2)) = L3 at *
    generalize tabL (Dv (n + 1)) (n + 2) = L2 at *
    generalize tabL (ch n) (n + 1) = L1 at *
    generalize tabL (Dv (n + 1)) (m + 1) = L at *
    generalize List.replicate (m + 1 - (n + 2)) (D.int 0) = zs at *
    have src : srcR1 [.e (dBin gSub (dBin gAdd (dVar 1) (dC (.int 1))) (dAll gLen [.e (dVar 2)]))] [some (.val (.int ((n : Int) + 1))), some (.val (.int m)), some (.val (.lst L2)), none] = .ok (rangeD 0 (m + 1 - (n + 2))) [some (.val (.int ((n : Int) + 1))), some (.val (.int m)), some (.val (.lst L2)), none] := by
      have k1 : (m : Int) + 1 - ((n : Int) + 2) < 4611686018427387904 := by omega
      have k2 : -4611686018427387904 ≤ (m : Int) + 1 - ((n : Int) + 2) := by omega
      have k3 : ((m : Int) + 1 - ((n : Int) + 2)).toNat = m + 1 - (n + 2) := by omega
      generalize m + 1 - (n + 2) = q at *
      simp -implicitDefEqProofs [callC, ownsIn, backD, sRet, sSeq, sIf, sSet, sNil, sDrop, sRaise, dVar, dBin, dUn, dAnd, dOr, dNot, dIf, dAll, dCall, dMake, runArgs, gIsi, List.replicate, srcA, kR1, gl, k1, k2, k3]
    have h0 : ¬ (n : Int) + 1 = 0 := by omega
    have h1 : ((n + 1 : Nat) : Int) = (n : Int) + 1 := by omega
    rw [h1]
    generalize m + 1 - (n + 2) = q at *
    unfold callV c_divisions b_divisions
    generalize srcR1 [.e (dBin gSub (dBin gAdd (dVar 1) (dC (.int 1))) (dAll gLen [.e (dVar 2)]))] = src1 at *
    simp -implicitDefEqProofs [callC, ownsIn, backD, sRet, sSeq, sIf, sSet, sNil, sDrop, sRaise, dVar, dBin, dUn, dAnd, dOr, dNot, dIf, dAll, dCall, dMake, runArgs, gIsi, List.replicate, h0, dAllS, runS, dLc, c, g1, g2, dSl, PtD.run, gSl, ct, g2, src, wipeD, lc]
end G

set_option maxRecDepth 100000
set_option maxHeartbeats 4000000
/-! Qmath: sums of divisions. -/
namespace G
open PySem PySem.Spec L2 DL
/-! sums -/
def sm (F : Nat → Nat) (m : Nat) : Nat := ((List.range m).map F).sum
theorem sm_0 (F : Nat → Nat) : sm F 0 = 0 := rfl
theorem sm_succ (F : Nat → Nat) (m : Nat) : sm F (m + 1) = sm F m + F m := by simp [sm, List.range_succ]
theorem sm_head (F : Nat → Nat) (m : Nat) : sm F (m + 1) = F 0 + sm (fun i => F (i + 1)) m := by
  induction m with
  | zero => simp [sm_succ, sm_0]
  | succ m ih => rw [sm_succ, ih, sm_succ]; omega
theorem sm_add (F K : Nat → Nat) (m : Nat) : sm (fun i => F i + K i) m = sm F m + sm K m := by
  induction m with
  | zero => rfl
  | succ m ih => simp only [sm_succ, ih]; omega
theorem sm_congr {F K : Nat → Nat} {m : Nat} (h : ∀ i, i < m → F i = K i) : sm F m = sm K m := by
  induction m with
  | zero => rfl
  | succ m ih => rw [sm_succ, sm_succ, ih fun i hi => h i (by omega), h m (by omega)]
theorem sm_mul (c : Nat) (F : Nat → Nat) (m : Nat) : sm (fun i => c * F i) m = c * sm F m := by
  induction m with
  | zero => rfl
  | succ m ih => rw [sm_succ, sm_succ, ih, Nat.mul_add]
theorem sm_zero {F : Nat → Nat} {m : Nat} (h : ∀ i, i < m → F i = 0) : sm F m = 0 := by
  induction m with
  | zero => rfl
  | succ m ih => rw [sm_succ, ih fun i hi => h i (by omega), h m (by omega)]
theorem sm_one {k w : Nat} : ∀ {m : Nat}, k < m → sm (fun c => if k = c then w else 0) m = w
  | m + 1, h => by
    rw [sm_succ]
    by_cases e : k = m
    · subst e
      rw [sm_zero fun i hi => if_neg (by omega), if_pos rfl, Nat.zero_add]
    · rw [sm_one (by omega : k < m), if_neg e, Nat.add_zero]
/-- weights told apart by a key -/
theorem sm_keys {α : Type} (k w : α → Nat) {M : Nat} : ∀ {l : List α}, (∀ p ∈ l, k p < M) → sm (fun c => ((l.filter fun p => decide (k p = c)).map w).sum) M = (l.map w).sum
  | [], _ => sm_zero fun i _ => rfl
  | p :: l, h => by
    have ih := sm_keys k w (M := M) (l := l) fun q hq => h q (List.mem_cons_of_mem _ hq)
    have e : sm (fun c => (((p :: l).filter fun p => decide (k p = c)).map w).sum) M = sm (fun c => (if k p = c then w p else 0) + ((l.filter fun p => decide (k p = c)).map w).sum) M := sm_congr fun c _ => by
      rw [List.filter_cons]
      by_cases q : k p = c
      · simp [q]
      · simp [q]
    rw [e, sm_add, ih, sm_one (h p List.mem_cons_self)]
    rfl
theorem sum_swap {α : Type} (F : Nat → α → Nat) (m : Nat) : ∀ l : List α, sm (fun i => (l.map (F i)).sum) m = (l.map fun p => sm (fun i => F i p) m).sum
  | [] => sm_zero fun i _ => rfl
  | p :: l => by
    have ih := sum_swap F m l
    simp only [List.map_cons, List.sum_cons]
    rw [sm_add, ih]
/-! rows of choices -/
theorem sm_ch : ∀ {m M : Nat}, m < M → sm (ch m) M = 2 ^ m
  | 0, M + 1, _ => by
    rw [sm_head, sm_zero (m := M) (F := fun i => ch 0 (i + 1)) fun i _ => rfl]
    rfl
  | m + 1, M + 1, h => by
    have h1 := sm_ch (m := m) (M := M) (by omega)
    have h2 := sm_ch (m := m) (M := M + 1) (by omega)
    rw [sm_head] at h2
    rw [sm_head]
    have e : sm (fun i => ch (m + 1) (i + 1)) M = sm (ch m) M + sm (fun i => ch m (i + 1)) M := by
      rw [← sm_add]
      exact sm_congr fun i _ => rfl
    rw [e, Nat.pow_succ]
    rw [ch_0] at h2 ⊢
    omega
theorem sm_kch {m : Nat} : 2 * sm (fun k => k * ch m k) (m + 1) = m * 2 ^ m := by
  have e1 : sm (fun k => (k + 1) * ch m (k + 1) + k * ch m k) (m + 1) = m * 2 ^ m := by
    rw [sm_congr (K := fun k => m * ch m k) fun k _ => ch_step m k, sm_mul, sm_ch (by omega)]
  rw [sm_add] at e1
  have e2 : sm (fun k => k * ch m k) (m + 2) = sm (fun k => (k + 1) * ch m (k + 1)) (m + 1) := by
    rw [sm_head]
    simp
  rw [sm_succ, ch_out (by omega : m < m + 1)] at e2
  omega
theorem ch_1 : ∀ m : Nat, ch m 1 = m
  | 0 => rfl
  | m + 1 => by
    show ch m 0 + ch m 1 = _
    rw [ch_0, ch_1 m]
    omega
theorem ch_self : ∀ m : Nat, ch m m = 1
  | 0 => rfl
  | m + 1 => by
    show ch m m + ch m (m + 1) = _
    rw [ch_self m, ch_out (by omega)]
theorem ch_sym : ∀ {m k : Nat}, k ≤ m → ch m (m - k) = ch m k
  | m, 0, _ => by rw [Nat.sub_zero, ch_self, ch_0]
  | m + 1, k + 1, h => by
    rw [show m + 1 - (k + 1) = m - k by omega]
    rcases Nat.eq_or_lt_of_le (show k ≤ m by omega) with e | e
    · subst e
      rw [Nat.sub_self, ch_0, ch_self]
    · have h1 := ch_sym (m := m) (k := k) (by omega)
      have h2 := ch_sym (m := m) (k := k + 1) (by omega)
      rw [show m - k = (m - (k + 1)) + 1 by omega]
      show ch m (m - (k + 1)) + ch m (m - (k + 1) + 1) = ch m k + ch m (k + 1)
      rw [h2, show m - (k + 1) + 1 = m - k by omega, h1]
      omega
/-! kinds -/
theorem kinds_sum {n : Nat} (h : 0 < n) (F : Kd → Nat) : ((kinds n).map F).sum = sm (fun i => F (i + 1, 0) + F (i + 1, 1)) n := by
  unfold kinds sm
  rw [if_neg (by omega)]
  generalize List.range n = l
  induction l with
  | nil => rfl
  | cons a l ih =>
    rw [List.flatMap_cons, List.map_append, List.sum_append, ih]
    simp
theorem sm_Dv {n : Nat} (h : 0 < n) : sm (fun i => Dv n (i + 1)) n = 2 ^ (n - 1) := by
  obtain ⟨m, rfl⟩ : ∃ m, n = m + 1 := ⟨n - 1, by omega⟩
  exact sm_ch (m := m) (M := m + 1) (by omega)
theorem all_rows (n : Nat) : ((kinds n).map fun p => Dv n p.1).sum = 2 ^ n := by
  rcases Nat.eq_zero_or_pos n with h | h
  · subst h; rfl
  · rw [kinds_sum h, sm_add, sm_Dv h]
    obtain ⟨m, rfl⟩ : ∃ m, n = m + 1 := ⟨n - 1, by omega⟩
    rw [Nat.pow_succ, Nat.add_sub_cancel]
    omega
/-- zeros and ones put together -/
theorem conv : ∀ (n a b : Nat), sm (fun o => Dv (n - o) a * Dv o b) (n + 1) = Dv n (a + b)
  | 0, a, b => by
    rw [sm_succ, sm_0]
    cases a <;> cases b <;> simp [Dv]
  | n + 1, a, b => by
    rw [sm_head]
    cases b with
    | zero =>
      have z : sm (fun i => Dv (n + 1 - (i + 1)) a * Dv (i + 1) 0) (n + 1) = 0 := sm_zero fun i _ => by simp [Dv]
      rw [z]
      simp [Dv]
    | succ b =>
      have h1 := conv n a b
      have h2 := conv n a (b + 1)
      have e : sm (fun i => Dv (n + 1 - (i + 1)) a * Dv (i + 1) (b + 1)) (n + 1) = sm (fun o => Dv (n - o) a * Dv o b) (n + 1) + sm (fun o => Dv (n - o) a * Dv o (b + 1)) (n + 1) := by
        rw [← sm_add]
        exact sm_congr fun i _ => by rw [Dv_rec, Nat.mul_add, show n + 1 - (i + 1) = n - i by omega]
      rw [e, h1, h2]
      have z : Dv 0 (b + 1) = 0 := rfl
      rw [z, Nat.mul_zero, Nat.zero_add, ← Nat.add_assoc a b 1, Dv_rec]
end G

set_option maxRecDepth 100000
set_option maxHeartbeats 4000000
/-! Qrow: rows made, compared. -/
namespace G
open PySem PySem.Spec L2 DL
theorem v_is_colour {c : Nat} (h : c ≤ 1) : callV c_is_colour [.int c] = .ok (.val (.bl true)) := by
  have h1 : (c : Int) ≤ 1 := by omega
  unfold callV
  simp -implicitDefEqProofs [callC, ownsIn, backD, sRet, sSeq, sIf, sSet, sNil, sDrop, sRaise, dVar, dBin, dUn, dAnd, dOr, dNot, dIf, dAll, dCall, dMake, runArgs, gIsi, List.replicate, c_is_colour, b_is_colour, v_is_number, h1]
abbrev ρRow (c : Nat) (ns : List Nat) : Slots := [some (.own (.ins "Row" [] [])), some (.val (.int c)), some (.val (.lst (nL ns))), none]
theorem row_1 {c : Nat} {ns : List Nat} (ok : RowOk c ns) : sIf (dOr (dNot (dCall c_is_colour [.e (dVar 1)])) (dOr (dNot (dUn (gIsi kitTab (.ty "list")) (dVar 2))) (dBin gGt (dAll gLen [.e (dVar 2)]) (dC (.int 2000))))) (sRaise "InvalidRow") sNil (ρRow c ns) = .nx (ρRow c ns) := by
  have h0 := v_is_colour ok.col
  have h5 : ¬ (2000 : Int) < (ns.length : Int) := by have := ok.len; omega
  simp -implicitDefEqProofs [callC, ownsIn, backD, sRet, sSeq, sIf, sSet, sNil, sDrop, sRaise, dVar, dBin, dUn, dAnd, dOr, dNot, dIf, dAll, dCall, dMake, runArgs, gIsi, List.replicate, h0, h5]
theorem row_lc {c : Nat} {ns : List Nat} (ok : RowOk c ns) : dLc (srcOf gLstI (dVar 2)) [3] (.name 3) (dC (.bl true)) el_Row_init_0 (ρRow c ns) = .ok (.own (.lst ((nL ns).map fun _ => .bl true))) (ρRow c ns) := by
  have e := runLc_map (vs := [3]) (tg := .name 3) (te := el_Row_init_0) (ρ := ρRow c ns) (f := fun _ => .bl true) (nL ns) [] (fun x hx => by
    obtain ⟨n, hn, rfl⟩ := List.mem_map.mp hx
    have h1 := ok.pos n hn
    have h2 : n ≤ maxLen := Nat.le_trans (le_sum hn) ok.sum
    unfold maxLen at h2
    refine ⟨(ρRow c ns).set 3 (some (.val (nD n))), (ρRow c ns).set 3 (some (.val (nD n))), .val (.bl true), rfl, ?_, rfl, rfl⟩
    have h3 : (1 : Int) ≤ (n : Int) := by omega
    have h4 : (n : Int) ≤ 1000000000000000000000000000000 := by omega
    simp -implicitDefEqProofs [callC, ownsIn, backD, sRet, sSeq, sIf, sSet, sNil, sDrop, sRaise, dVar, dBin, dUn, dAnd, dOr, dNot, dIf, dAll, dCall, dMake, runArgs, gIsi, List.replicate, el_Row_init_0, nD, v_is_number, h3, h4]) (by have := ok.len; simp [sizeLine]; omega)
  simp only [List.nil_append] at e
  simp only [dLc, srcOf, dVar, gLstI]
  exact e
theorem row_2 {c : Nat} {ns : List Nat} (ok : RowOk c ns) : sIf (dOr (dNot (dAll gAll [.e (dLc (srcOf gLstI (dVar 2)) [3] (.name 3) (dC (.bl true)) el_Row_init_0)])) (dBin gGt (dAll gSum [.e (dVar 2)]) (dC (.int 1000000000000000000000000000000)))) (sRaise "InvalidRow") sNil (ρRow c ns) = .nx (ρRow c ns) := by
  have e4 : blsOf ((nL ns).map fun _ => D.bl true) = some ((nL ns).map fun _ => true) := blsOf_map (fun _ => true) (nL ns)
  have g1 : gAll [.lst ((nL ns).map fun _ => D.bl true)] = .ok (.val (.bl true)) := by simp [gAll, e4]
  have h6 : ¬ (1000000000000000000000000000000 : Int) < ((ns.sum : Nat) : Int) := by have := ok.sum; unfold maxLen at this; omega
  have lc := row_lc ok
  simp only [ρRow] at lc ⊢
  simp -implicitDefEqProofs [callC, ownsIn, backD, sRet, sSeq, sIf, sSet, sNil, sDrop, sRaise, dVar, dBin, dUn, dAnd, dOr, dNot, dIf, dAll, dCall, dMake, runArgs, gIsi, List.replicate, lc, g1, h6]
theorem row_3 {c : Nat} {ns : List Nat} (ok : RowOk c ns) : sIf (dAnd (dBin gEq (dVar 2) (dAll DL.gLst [])) (dBin gEq (dVar 1) (dC (.int 1)))) (sRaise "InvalidRow") sNil (ρRow c ns) = .nx (ρRow c ns) := by
  by_cases q : ns = []
  · have := ok.emp q
    subst q this
    simp -implicitDefEqProofs [callC, ownsIn, backD, sRet, sSeq, sIf, sSet, sNil, sDrop, sRaise, dVar, dBin, dUn, dAnd, dOr, dNot, dIf, dAll, dCall, dMake, runArgs, gIsi, List.replicate, nL_nil]
  · simp -implicitDefEqProofs [callC, ownsIn, backD, sRet, sSeq, sIf, sSet, sNil, sDrop, sRaise, dVar, dBin, dUn, dAnd, dOr, dNot, dIf, dAll, dCall, dMake, runArgs, gIsi, List.replicate, gEq_nLnil, q]
theorem new_row {c : Nat} {ns : List Nat} (ok : RowOk c ns) : newV "Row" c_Row_init [.int c, .lst (nL ns)] = .ok (.own (rowM c ns)) := by
  have s1 := row_1 ok
  have s2 := row_2 ok
  have s3 := row_3 ok
  simp only [ρRow] at s1 s2 s3
  unfold newV
  simp only [List.map_cons, List.map_nil, c_Row_init, callC, ownsIn, b_Row_init, List.length_cons, List.length_nil, List.replicate, List.cons_append, List.nil_append]
  simp only [sSeq, s1, s2, s3, sb_nx]
  simp -implicitDefEqProofs [callC, ownsIn, backD, sRet, sSeq, sIf, sSet, sNil, sDrop, sRaise, dVar, dBin, dUn, dAnd, dOr, dNot, dIf, dAll, dCall, dMake, runArgs, gIsi, List.replicate, DL.sFld, putD, rowM]
theorem make_row {c : Nat} {ns : List Nat} {ρ : Slots} (ok : RowOk c ns) : makeAt "Row" c_Row_init [.d (.int c), .d (.lst (nL ns))] ρ = .ok (.own (rowM c ns)) ρ := make2 (new_row ok) (by simp)
end G

set_option maxRecDepth 100000
set_option maxHeartbeats 4000000
/-! Qnumb: numbers of rows. -/
namespace G
open PySem PySem.Spec L2 DL
def cw (g h n c : Nat) : Nat := (((kinds n).filter fun p => decide (pc g h p.1 p.2 = c)).map fun p => Dv n p.1).sum
def tc (g h n : Nat) : Nat := ((kinds n).map fun p => Dv n p.1 * pc g h p.1 p.2).sum
theorem pc_le {g h r f : Nat} (hf : f ≤ 1) : pc g h r f ≤ r := by
  unfold pc
  split
  · omega
  · split
    · split <;> omega
    · unfold sc
      split
      · split <;> omega
      · split <;> omega
      · split <;> omega
theorem kl_len (n : Nat) : (kinds n).length ≤ 2 * n + 1 := by
  unfold kinds
  split
  · simp
  · have e : ∀ l : List Nat, (l.flatMap fun i => [((i + 1, 0) : Kd), (i + 1, 1)]).length = 2 * l.length := fun l => by
      induction l with
      | nil => rfl
      | cons a l ih => rw [List.flatMap_cons, List.length_append, ih]; simp; omega
    rw [e, List.length_range]
    omega
theorem ixk_0 {p : Kd} : gIx (kD p) (.int 0) = .ok (.val (.int p.1)) := rfl
theorem ixk_1 {p : Kd} : gIx (kD p) (.int 1) = .ok (.val (.int p.2)) := rfl
theorem sum_nL {ns : List Nat} : gSum [.lst (nL ns)] = .ok (.val (.int (ns.sum : Nat))) := by simp
theorem v_count_cost {g h n c : Nat} {c' : Int} (hc : c' = c) (hn : n ≤ 3000) : callV c_count_rows_with_cost [.int n, .str (gS g), .str (hS h), .int c'] = .ok (.val (.int (cw g h n c))) := by
  subst hc
  have k1 := v_check_length (n := (n : Int)) (m := 3000) (by omega) (by omega)
  have k2 := v_check_count (n := (c : Int)) (by omega)
  have k3 := v_check_words (g := g) (h := h)
  have d := v_divisions (n := n) (m := n) (by omega) (by omega)
  have kk := v_kinds (n := n) (by omega)
  have pcf : ∀ p ∈ kinds n, callV c_plain_cost [.int (p.1 : Nat), .int (p.2 : Nat), .str (gS g), .str (hS h)] = .ok (.val (.int (pc g h p.1 p.2))) := fun p hp => v_plain_cost (kinds_mem (n := n) (r := p.1) (f := p.2) hp).1
  have kl := kl_len n
  generalize gS g = y at *
  generalize hS h = z at *
  have lc1 := runLc_filG (vs := [6]) (tg := .name 6) (tt := ct_count_rows_with_cost_0) (te := el_count_rows_with_cost_0) (ρ := [some (.val (.int n)), some (.val (.str y)), some (.val (.str z)), some (.val (.int c)), some (.own (.lst (tabL (Dv n) (n + 1)))), none, none, none, none]) (g := kD) (f := kD) (b := fun p => decide (pc g h p.1 p.2 = c)) (kinds n) [] (fun p hp => by
    have e := pcf p hp
    generalize tabL (Dv n) (n + 1) = L
    refine ⟨[some (.val (.int n)), some (.val (.str y)), some (.val (.str z)), some (.val (.int c)), some (.own (.lst L)), none, some (.val (kD p)), none, none], [some (.val (.int n)), some (.val (.str y)), some (.val (.str z)), some (.val (.int c)), some (.own (.lst L)), none, some (.val (kD p)), none, none], rfl, ?_, rfl, [some (.val (.int n)), some (.val (.str y)), some (.val (.str z)), some (.val (.int c)), some (.own (.lst L)), none, some (.val (kD p)), none, none], .val (kD p), ?_, rfl, rfl⟩
    · have q : decide (((pc g h p.1 p.2 : Nat) : Int) = (c : Int)) = decide (pc g h p.1 p.2 = c) := decide_eq_decide.mpr (by omega)
      simp -implicitDefEqProofs [callC, ownsIn, backD, sRet, sSeq, sIf, sSet, sNil, sDrop, sRaise, dVar, dBin, dUn, dAnd, dOr, dNot, dIf, dAll, dCall, dMake, runArgs, gIsi, List.replicate, ct_count_rows_with_cost_0, ixk_0, ixk_1, e, q]
    · simp -implicitDefEqProofs [callC, ownsIn, backD, sRet, sSeq, sIf, sSet, sNil, sDrop, sRaise, dVar, dBin, dUn, dAnd, dOr, dNot, dIf, dAll, dCall, dMake, runArgs, gIsi, List.replicate, el_count_rows_with_cost_0]) (by unfold sizeLine; simp only [List.length_nil]; omega)
  rw [List.nil_append] at lc1
  have fl : ((kinds n).filter fun p => decide (pc g h p.1 p.2 = c)).length ≤ 2 * n + 1 := Nat.le_trans (List.length_filter_le _ _) kl
  have fm : ∀ p ∈ (kinds n).filter fun p => decide (pc g h p.1 p.2 = c), p.1 < n + 1 := fun p hp => by
    have := (kinds_mem (n := n) (r := p.1) (f := p.2) (List.mem_filter.mp hp).1).2.1
    omega
  have ec : cw g h n c = (((kinds n).filter fun p => decide (pc g h p.1 p.2 = c)).map fun p => Dv n p.1).sum := rfl
  rw [ec]
  generalize (kinds n).filter (fun p => decide (pc g h p.1 p.2 = c)) = ks at *
  obtain ⟨ρe, lc2⟩ := runLc_mapF (vs := [7, 8]) (tg := .tup (.cons (.name 7) (.cons (.name 8) .nil))) (te := el_count_rows_with_cost_1) (ρ' := [some (.val (.int n)), some (.val (.str y)), some (.val (.str z)), some (.val (.int c)), some (.val (.lst (tabL (Dv n) (n + 1)))), some (.val (.lst (ks.map kD))), none, none, none]) (g := kD) (f := fun p => nD (Dv n p.1)) ks [some (.val (.int n)), some (.val (.str y)), some (.val (.str z)), some (.val (.int c)), some (.own (.lst (tabL (Dv n) (n + 1)))), some (.val (.lst (ks.map kD))), none, none, none] [] (fun p hp σ hσ => by
    have ix := ix_tab (F := Dv n) (m := n + 1) (k := p.1) (c := (p.1 : Nat)) rfl (fm p hp)
    generalize tabL (Dv n) (n + 1) = L at *
    rcases hσ with rfl | rfl
    · refine ⟨[some (.val (.int n)), some (.val (.str y)), some (.val (.str z)), some (.val (.int c)), some (.own (.lst L)), some (.val (.lst (ks.map kD))), none, some (.val (.int p.1)), some (.val (.int p.2))], [some (.val (.int n)), some (.val (.str y)), some (.val (.str z)), some (.val (.int c)), some (.val (.lst L)), some (.val (.lst (ks.map kD))), none, some (.val (.int p.1)), some (.val (.int p.2))], .val (nD (Dv n p.1)), rfl, ?_, rfl, rfl⟩
      simp -implicitDefEqProofs [callC, ownsIn, backD, sRet, sSeq, sIf, sSet, sNil, sDrop, sRaise, dVar, dBin, dUn, dAnd, dOr, dNot, dIf, dAll, dCall, dMake, runArgs, gIsi, List.replicate, el_count_rows_with_cost_1, ix, nD]
    · refine ⟨[some (.val (.int n)), some (.val (.str y)), some (.val (.str z)), some (.val (.int c)), some (.val (.lst L)), some (.val (.lst (ks.map kD))), none, some (.val (.int p.1)), some (.val (.int p.2))], [some (.val (.int n)), some (.val (.str y)), some (.val (.str z)), some (.val (.int c)), some (.val (.lst L)), some (.val (.lst (ks.map kD))), none, some (.val (.int p.1)), some (.val (.int p.2))], .val (nD (Dv n p.1)), rfl, ?_, rfl, rfl⟩
      simp -implicitDefEqProofs [callC, ownsIn, backD, sRet, sSeq, sIf, sSet, sNil, sDrop, sRaise, dVar, dBin, dUn, dAnd, dOr, dNot, dIf, dAll, dCall, dMake, runArgs, gIsi, List.replicate, el_count_rows_with_cost_1, ix, nD]) (by unfold sizeLine; simp only [List.length_nil]; omega)
  rw [List.nil_append, nL_map] at lc2
  have s := sum_nL (ns := ks.map fun p => Dv n p.1)
  generalize ks.map (fun p => Dv n p.1) = ws at *
  generalize tabL (Dv n) (n + 1) = L at *
  generalize (kinds n).map kD = ps at *
  generalize ks.map kD = qs at *
  unfold callV
  simp -implicitDefEqProofs [callC, ownsIn, backD, sRet, sSeq, sIf, sSet, sNil, sDrop, sRaise, dVar, dBin, dUn, dAnd, dOr, dNot, dIf, dAll, dCall, dMake, runArgs, gIsi, List.replicate, c_count_rows_with_cost, b_count_rows_with_cost, k1, k2, k3, d, kk, dLc, srcOf, gLstI, wipeD, lc1, lc2]
theorem v_total {g h n : Nat} (hn : n ≤ 3000) : callV c_total_cost [.int n, .str (gS g), .str (hS h)] = .ok (.val (.int (tc g h n))) := by
  have k1 := v_check_length (n := (n : Int)) (m := 3000) (by omega) (by omega)
  have k3 := v_check_words (g := g) (h := h)
  have d := v_divisions (n := n) (m := n) (by omega) (by omega)
  have kk := v_kinds (n := n) (by omega)
  have kl := kl_len n
  have pcf : ∀ p ∈ kinds n, callV c_plain_cost [.int (p.1 : Nat), .int (p.2 : Nat), .str (gS g), .str (hS h)] = .ok (.val (.int (pc g h p.1 p.2))) := fun p hp => v_plain_cost (kinds_mem (n := n) (r := p.1) (f := p.2) hp).1
  have fm : ∀ p ∈ kinds n, p.1 < n + 1 ∧ p.2 ≤ 1 := fun p hp => by
    have := kinds_mem (n := n) (r := p.1) (f := p.2) hp
    omega
  have ec : tc g h n = ((kinds n).map fun p => Dv n p.1 * pc g h p.1 p.2).sum := rfl
  rw [ec]
  generalize gS g = y at *
  generalize hS h = z at *
  generalize kinds n = ks at *
  obtain ⟨ρe, lc2⟩ := runLc_mapF (vs := [4, 5]) (tg := .tup (.cons (.name 4) (.cons (.name 5) .nil))) (te := el_total_cost_0) (ρ' := [some (.val (.int n)), some (.val (.str y)), some (.val (.str z)), some (.val (.lst (tabL (Dv n) (n + 1)))), none, none]) (g := kD) (f := fun p => nD (Dv n p.1 * pc g h p.1 p.2)) ks [some (.val (.int n)), some (.val (.str y)), some (.val (.str z)), some (.own (.lst (tabL (Dv n) (n + 1)))), none, none] [] (fun p hp σ hσ => by
    have ix := ix_tab (F := Dv n) (m := n + 1) (k := p.1) (c := (p.1 : Nat)) rfl (fm p hp).1
    have e := pcf p hp
    have b := pc_le (g := g) (h := h) (r := p.1) (fm p hp).2
    have b2 := (fm p hp).1
    have m : gMul (.int (Dv n p.1 : Nat)) (.int (pc g h p.1 p.2 : Nat)) = .ok (.val (.int ((Dv n p.1 : Nat) * (pc g h p.1 p.2 : Nat)))) := gMul_int (by simp only [mulOk]; simp; omega)
    generalize tabL (Dv n) (n + 1) = L at *
    rcases hσ with rfl | rfl
    · refine ⟨[some (.val (.int n)), some (.val (.str y)), some (.val (.str z)), some (.own (.lst L)), some (.val (.int p.1)), some (.val (.int p.2))], [some (.val (.int n)), some (.val (.str y)), some (.val (.str z)), some (.val (.lst L)), some (.val (.int p.1)), some (.val (.int p.2))], .val (nD (Dv n p.1 * pc g h p.1 p.2)), rfl, ?_, rfl, rfl⟩
      simp -implicitDefEqProofs [callC, ownsIn, backD, sRet, sSeq, sIf, sSet, sNil, sDrop, sRaise, dVar, dBin, dUn, dAnd, dOr, dNot, dIf, dAll, dCall, dMake, runArgs, gIsi, List.replicate, el_total_cost_0, ix, nD, e, m]
    · refine ⟨[some (.val (.int n)), some (.val (.str y)), some (.val (.str z)), some (.val (.lst L)), some (.val (.int p.1)), some (.val (.int p.2))], [some (.val (.int n)), some (.val (.str y)), some (.val (.str z)), some (.val (.lst L)), some (.val (.int p.1)), some (.val (.int p.2))], .val (nD (Dv n p.1 * pc g h p.1 p.2)), rfl, ?_, rfl, rfl⟩
      simp -implicitDefEqProofs [callC, ownsIn, backD, sRet, sSeq, sIf, sSet, sNil, sDrop, sRaise, dVar, dBin, dUn, dAnd, dOr, dNot, dIf, dAll, dCall, dMake, runArgs, gIsi, List.replicate, el_total_cost_0, ix, nD, e, m]) (by unfold sizeLine; simp only [List.length_nil]; omega)
  rw [List.nil_append, nL_map] at lc2
  have s := sum_nL (ns := ks.map fun p => Dv n p.1 * pc g h p.1 p.2)
  generalize ks.map (fun p => Dv n p.1 * pc g h p.1 p.2) = ws at *
  generalize tabL (Dv n) (n + 1) = L at *
  generalize ks.map kD = ps at *
  unfold callV
  simp -implicitDefEqProofs [callC, ownsIn, backD, sRet, sSeq, sIf, sSet, sNil, sDrop, sRaise, dVar, dBin, dUn, dAnd, dOr, dNot, dIf, dAll, dCall, dMake, runArgs, gIsi, List.replicate, c_total_cost, b_total_cost, k1, k3, d, kk, dLc, srcOf, gLstI, wipeD, lc2]
def cr (n r : Nat) : Nat := if n = 0 then Dv 0 r else 2 * Dv n r
theorem v_count_rows {n r : Nat} {r' : Int} (hr : r' = r) (hn : n ≤ 3000) : callV c_count_rows [.int n, .int r'] = .ok (.val (.int (cr n r))) := by
  subst hr
  have k1 := v_check_length (n := (n : Int)) (m := 3000) (by omega) (by omega)
  have k2 := v_check_count (n := (r : Int)) (by omega)
  unfold callV
  by_cases h : n = 0 ∨ r = 0 ∨ n < r
  · by_cases a : n = 0
    · subst a
      by_cases b : r = 0
      · subst b
        have e : cr 0 0 = 1 := rfl
        rw [e]
        simp only [Int.natCast_zero] at *
        simp -implicitDefEqProofs [callC, ownsIn, backD, sRet, sSeq, sIf, sSet, sNil, sDrop, sRaise, dVar, dBin, dUn, dAnd, dOr, dNot, dIf, dAll, dCall, dMake, runArgs, gIsi, List.replicate, c_count_rows, b_count_rows, k1, k2]
      · have e : cr 0 r = 0 := by unfold cr; rw [if_pos rfl]; exact Dv_out (by omega)
        have b' : ¬ (r : Int) = 0 := by omega
        rw [e]
        simp only [Int.natCast_zero] at *
        simp -implicitDefEqProofs [callC, ownsIn, backD, sRet, sSeq, sIf, sSet, sNil, sDrop, sRaise, dVar, dBin, dUn, dAnd, dOr, dNot, dIf, dAll, dCall, dMake, runArgs, gIsi, List.replicate, c_count_rows, b_count_rows, k1, k2, b, b']
    · have a' : ¬ (n : Int) = 0 := by omega
      have e : cr n r = 0 := by
        unfold cr
        rw [if_neg a]
        rcases h with h | h | h
        · exact absurd h a
        · subst h
          cases n with
          | zero => exact absurd rfl a
          | succ n => rfl
        · rw [Dv_out h]
      rw [e]
      by_cases b : r = 0
      · subst b
        simp only [Int.natCast_zero] at *
        simp -implicitDefEqProofs [callC, ownsIn, backD, sRet, sSeq, sIf, sSet, sNil, sDrop, sRaise, dVar, dBin, dUn, dAnd, dOr, dNot, dIf, dAll, dCall, dMake, runArgs, gIsi, List.replicate, c_count_rows, b_count_rows, k1, k2, a, a']
      · have b' : ¬ (r : Int) = 0 := by omega
        have c : n < r := by omega
        simp -implicitDefEqProofs [callC, ownsIn, backD, sRet, sSeq, sIf, sSet, sNil, sDrop, sRaise, dVar, dBin, dUn, dAnd, dOr, dNot, dIf, dAll, dCall, dMake, runArgs, gIsi, List.replicate, c_count_rows, b_count_rows, k1, k2, a, a', b, b', c]
  · have a : ¬ n = 0 := fun q => h (.inl q)
    have b : ¬ r = 0 := fun q => h (.inr (.inl q))
    have c : ¬ n < r := fun q => h (.inr (.inr q))
    have e : cr n r = 2 * Dv n r := by unfold cr; rw [if_neg a]
    have d := v_divisions (n := n) (m := r) (by omega) (by omega)
    have ix := ix_tab (F := Dv n) (m := r + 1) (k := r) (c := r) rfl (by omega)
    have m : gMul (.int 2) (.int (Dv n r : Nat)) = .ok (.val (.int (2 * (Dv n r : Nat)))) := gMul_int (by simp [mulOk])
    rw [e]
    generalize tabL (Dv n) (r + 1) = L at *
    simp -implicitDefEqProofs [callC, ownsIn, backD, sRet, sSeq, sIf, sSet, sNil, sDrop, sRaise, dVar, dBin, dUn, dAnd, dOr, dNot, dIf, dAll, dCall, dMake, runArgs, gIsi, List.replicate, c_count_rows, b_count_rows, k1, k2, a, b, c, d, ix, m]
end G

set_option maxRecDepth 100000
set_option maxHeartbeats 4000000
/-! Qmean: the mean cost in lowest terms. -/
namespace G
open PySem PySem.Spec L2 DL
theorem mod2 (T : Nat) : gMod (.int T) (.int 2) = .ok (.val (.int (T % 2 : Nat))) := by
  rw [gMod_int (by omega)]
  rfl
theorem div2 (T : Nat) : gFdiv (.int T) (.int 2) = .ok (.val (.int (T / 2 : Nat))) := by
  rw [gFdiv_int (by omega) (by decide +kernel)]
  rfl
theorem mean_loop {a b c : Option R} : ∀ (fuel m T P : Nat), m < fuel → P = 2 ^ m → ∃ T' k, k ≤ m ∧ T = T' * 2 ^ (m - k) ∧ (T' % 2 = 1 ∨ k = 0) ∧ runWhile wt_mean_cost_0 bd_mean_cost_0 fuel [a, b, c, some (.val (.int T)), some (.val (.int P))] = .nx [a, b, c, some (.val (.int T')), some (.val (.int (2 ^ k : Nat)))]
  | 0, m, T, P, h, _ => by omega
  | fuel + 1, m, T, P, h, hP => by
    have m1 := mod2 T
    by_cases e : T % 2 = 0
    · cases m with
      | zero =>
        have hP' : P = 1 := hP
        subst hP'
        refine ⟨T, 0, Nat.le_refl _, by simp, .inr rfl, ?_⟩
        have w : wt_mean_cost_0 [a, b, c, some (.val (.int T)), some (.val (.int (1 : Nat)))] = .ok (.val (.bl false)) [a, b, c, some (.val (.int T)), some (.val (.int (1 : Nat)))] := by
          rw [e] at m1
          simp only [Int.natCast_zero, Int.natCast_one] at *
          simp -implicitDefEqProofs [callC, ownsIn, backD, sRet, sSeq, sIf, sSet, sNil, sDrop, sRaise, dVar, dBin, dUn, dAnd, dOr, dNot, dIf, dAll, dCall, dMake, runArgs, gIsi, List.replicate, wt_mean_cost_0, m1]
        unfold runWhile
        rw [w]
        rfl
      | succ m =>
        have hP2 : P / 2 = 2 ^ m := by rw [hP, Nat.pow_succ, Nat.mul_div_cancel _ (by omega)]
        have hp : 0 < 2 ^ m := Nat.pow_pos (by decide)
        have h1 : 1 < P := by rw [hP, Nat.pow_succ]; omega
        obtain ⟨T', k, i1, i2, i3, i4⟩ := mean_loop (a := a) (b := b) (c := c) fuel m (T / 2) (P / 2) (by omega) hP2
        refine ⟨T', k, by omega, ?_, i3, ?_⟩
        · have : m + 1 - k = (m - k) + 1 := by omega
          rw [this, Nat.pow_succ, ← Nat.mul_assoc, ← i2]
          omega
        · have w : wt_mean_cost_0 [a, b, c, some (.val (.int T)), some (.val (.int P))] = .ok (.val (.bl true)) [a, b, c, some (.val (.int T)), some (.val (.int P))] := by
            rw [e] at m1
            simp only [Int.natCast_zero] at m1
            have h1' : (1 : Int) < (P : Int) := by omega
            simp -implicitDefEqProofs [callC, ownsIn, backD, sRet, sSeq, sIf, sSet, sNil, sDrop, sRaise, dVar, dBin, dUn, dAnd, dOr, dNot, dIf, dAll, dCall, dMake, runArgs, gIsi, List.replicate, wt_mean_cost_0, m1, h1']
          have bd : bd_mean_cost_0 [a, b, c, some (.val (.int T)), some (.val (.int P))] = .nx [a, b, c, some (.val (.int (T / 2 : Nat))), some (.val (.int (P / 2 : Nat)))] := by
            have d1 := div2 T
            have d2 := div2 P
            generalize T / 2 = T2 at *
            generalize P / 2 = P2 at *
            simp -implicitDefEqProofs [callC, ownsIn, backD, sRet, sSeq, sIf, sSet, sNil, sDrop, sRaise, dVar, dBin, dUn, dAnd, dOr, dNot, dIf, dAll, dCall, dMake, runArgs, gIsi, List.replicate, bd_mean_cost_0, sPar, runRs, putAll, d1, d2]
          unfold runWhile
          rw [w]
          show (match bd_mean_cost_0 [a, b, c, some (.val (.int T)), some (.val (.int P))] with
            | .nx ρ2 => runWhile wt_mean_cost_0 bd_mean_cost_0 fuel ρ2
            | .ct ρ2 => runWhile wt_mean_cost_0 bd_mean_cost_0 fuel ρ2
            | .bk ρ2 => .nx ρ2
            | .rt r ρ2 => .rt r ρ2
            | .exc x ρ2 => .exc x ρ2
            | .bad => .bad) = _
          rw [bd]
          exact i4
    · have e' : T % 2 = 1 := by omega
      refine ⟨T, m, Nat.le_refl _, by simp, .inl e', ?_⟩
      have w : wt_mean_cost_0 [a, b, c, some (.val (.int T)), some (.val (.int P))] = .ok (.val (.bl false)) [a, b, c, some (.val (.int T)), some (.val (.int P))] := by
        rw [e'] at m1
        simp only [Int.natCast_one] at m1
        simp -implicitDefEqProofs [callC, ownsIn, backD, sRet, sSeq, sIf, sSet, sNil, sDrop, sRaise, dVar, dBin, dUn, dAnd, dOr, dNot, dIf, dAll, dCall, dMake, runArgs, gIsi, List.replicate, wt_mean_cost_0, m1]
      rw [← hP]
      unfold runWhile
      rw [w]
      rfl
theorem shl_int {i n : Nat} {n' : Int} (hn' : n' = n) (hi : i < 100) (hn : n ≤ 100000) : gShl (.int i) (.int n') = .ok (.val (.int (i * 2 ^ n : Nat))) := by
  subst hn'
  have h : shlOk (i : Int) (n : Int) = true := by simp [shlOk]; omega
  simp only [gShl, gIc]
  rw [if_pos h]
  have e : (i : Int) * 2 ^ ((n : Int).toNat) = ((i * 2 ^ n : Nat) : Int) := by
    rw [Int.toNat_natCast, Int.natCast_mul, Int.natCast_pow]
    rfl
  rw [e]
theorem v_mean {g h n : Nat} (hn : n ≤ 3000) : ∃ T' k, k ≤ n ∧ tc g h n = T' * 2 ^ (n - k) ∧ (T' % 2 = 1 ∨ k = 0) ∧ callV c_mean_cost [.int n, .str (gS g), .str (hS h)] = .ok (.val (.tup [.int (T' : Nat), .int (2 ^ k : Nat)])) := by
  have t := v_total (g := g) (h := h) hn
  have s := shl_int (i := 1) (n := n) rfl (by decide) (by omega)
  generalize tc g h n = T at *
  generalize gS g = y at *
  generalize hS h = z at *
  rw [Nat.one_mul] at s
  obtain ⟨T', k, i1, i2, i3, i4⟩ := mean_loop (a := some (.val (.int n))) (b := some (.val (.str y))) (c := some (.val (.str z))) 10000 n T (2 ^ n) (by omega) rfl
  refine ⟨T', k, i1, i2, i3, ?_⟩
  simp only [Int.natCast_one] at s
  generalize 2 ^ n = P at *
  generalize 2 ^ k = Q at *
  unfold callV c_mean_cost b_mean_cost
  generalize runWhile wt_mean_cost_0 bd_mean_cost_0 10000 = st at *
  simp -implicitDefEqProofs [callC, ownsIn, backD, sRet, sSeq, sIf, sSet, sNil, sDrop, sRaise, dVar, dBin, dUn, dAnd, dOr, dNot, dIf, dAll, dCall, dMake, runArgs, gIsi, List.replicate, sPar, runRs, putAll, t, s, i4]
end G

set_option maxRecDepth 100000
set_option maxHeartbeats 4000000
/-! Qmixc: rows with given numbers of zeros and ones. -/
namespace G
open PySem PySem.Spec L2 DL
/-- a kind's share of the rows with z zeros and o ones -/
def ms (g h z o c : Nat) (p : Kd) : Nat := if pc g h p.1 p.2 = c then Dv z ((p.1 + 1 - p.2) / 2) * Dv o ((p.1 + p.2) / 2) else 0
def cm (g h z o c : Nat) : Nat := ((kinds (z + o)).map (ms g h z o c)).sum
theorem Dv_le {m : Nat} : ∀ k, Dv m k ≤ 2 ^ m := fun k => by
  have h : ∀ {m k : Nat}, ch m k ≤ 2 ^ m := fun {m k} => by
    have e := sm_ch (m := m) (M := max m k + 1) (by omega)
    have : ∀ M, k < M → ch m k ≤ sm (ch m) M := fun M => by
      induction M with
      | zero => omega
      | succ M ih =>
        intro hk
        rw [sm_succ]
        rcases Nat.eq_or_lt_of_le (show k ≤ M by omega) with q | q
        · subst q; omega
        · have := ih q; omega
    have := this (max m k + 1) (by omega)
    omega
  cases m with
  | zero => cases k <;> simp [Dv]
  | succ m => cases k with
    | zero => simp [Dv]
    | succ k =>
      have := h (m := m) (k := k)
      have e : Dv (m + 1) (k + 1) = ch m k := rfl
      rw [e, Nat.pow_succ]
      omega
abbrev ρM (z o : Nat) (y w : Str) (c : Nat) (e a b : Option R) (t : Nat) (r f : Option R) : Slots := [some (.val (.int z)), some (.val (.int o)), some (.val (.str y)), some (.val (.str w)), some (.val (.int c)), e, a, b, some (.val (.int t)), r, f]
def lstR (L : List D) (a : Option R) : Prop := a = some (.own (.lst L)) ∨ a = some (.val (.lst L))
theorem mx_step {g h z o c t : Nat} {e a b : Option R} {p : Kd} (hp : p ∈ kinds (z + o)) (ho : o ≤ 60) (ha : lstR (tabL (Dv z) (z + o + 1)) a) (hb : lstR (tabL (Dv o) (z + o + 1)) b) : ∃ a' b', lstR (tabL (Dv z) (z + o + 1)) a' ∧ lstR (tabL (Dv o) (z + o + 1)) b' ∧ bd_count_mixed_rows_1 (ρM z o (gS g) (hS h) c e a b t (some (.val (.int p.1))) (some (.val (.int p.2)))) = .nx (ρM z o (gS g) (hS h) c e a' b' (t + ms g h z o c p) (some (.val (.int p.1))) (some (.val (.int p.2)))) := by
  obtain ⟨k1, k2, k3, k4⟩ := kinds_mem (n := z + o) (r := p.1) (f := p.2) hp
  have e1 := v_plain_cost (g := g) (h := h) (r := p.1) k1
  generalize gS g = y at *
  generalize hS h = w at *
  simp only [ρM]
  unfold ms
  by_cases q : pc g h p.1 p.2 = c
  · have q' : ((pc g h p.1 p.2 : Nat) : Int) = (c : Int) := by omega
    rw [if_pos q]
    have d1 := div2 (p.1 + 1 - p.2)
    have d2 := div2 (p.1 + p.2)
    have s1 : (((p.1 + 1 - p.2 : Nat)) : Int) = (p.1 : Int) + 1 - p.2 := by omega
    have s2 : (((p.1 + p.2 : Nat)) : Int) = (p.1 : Int) + p.2 := by omega
    rw [s1] at d1
    rw [s2] at d2
    have i1 := ix_tab (F := Dv z) (m := z + o + 1) (k := (p.1 + 1 - p.2) / 2) (c := ((p.1 + 1 - p.2) / 2 : Nat)) rfl (by omega)
    have i2 := ix_tab (F := Dv o) (m := z + o + 1) (k := (p.1 + p.2) / 2) (c := ((p.1 + p.2) / 2 : Nat)) rfl (by omega)
    have lt : Dv o ((p.1 + p.2) / 2) < 2 ^ 63 := Nat.lt_of_le_of_lt (Dv_le _) (Nat.pow_lt_pow_right (by decide) (by omega))
    generalize (p.1 + 1 - p.2) / 2 = u at *
    generalize (p.1 + p.2) / 2 = v at *
    generalize Dv z u = A at *
    generalize Dv o v = B at *
    generalize tabL (Dv z) (z + o + 1) = LA at *
    generalize tabL (Dv o) (z + o + 1) = LB at *
    have m : gMul (.int (A : Nat)) (.int (B : Nat)) = .ok (.val (.int ((A : Nat) * (B : Nat)))) := gMul_int (by simp only [mulOk]; simp; omega)
    refine ⟨some (.val (.lst LA)), some (.val (.lst LB)), .inr rfl, .inr rfl, ?_⟩
    simp only [Int.natCast_add, Int.natCast_mul]
    rcases ha with rfl | rfl <;> rcases hb with rfl | rfl <;> simp -implicitDefEqProofs [callC, ownsIn, backD, sRet, sSeq, sIf, sSet, sNil, sDrop, sRaise, dVar, dBin, dUn, dAnd, dOr, dNot, dIf, dAll, dCall, dMake, runArgs, gIsi, List.replicate, bd_count_mixed_rows_1, e1, q', gEq, DL.sAug, d1, d2, i1, i2, m]
  · have q' : ¬ ((pc g h p.1 p.2 : Nat) : Int) = (c : Int) := by omega
    rw [if_neg q, Nat.add_zero]
    refine ⟨a, b, ha, hb, ?_⟩
    simp -implicitDefEqProofs [callC, ownsIn, backD, sRet, sSeq, sIf, sSet, sNil, sDrop, sRaise, dVar, dBin, dUn, dAnd, dOr, dNot, dIf, dAll, dCall, dMake, runArgs, gIsi, List.replicate, bd_count_mixed_rows_1, e1, q', gEq]
theorem mx_loop {g h z o c : Nat} {e : Option R} (ho : o ≤ 60) : ∀ (ks : List Kd) (t : Nat) (a b r f : Option R), (∀ p ∈ ks, p ∈ kinds (z + o)) → lstR (tabL (Dv z) (z + o + 1)) a → lstR (tabL (Dv o) (z + o + 1)) b → ∃ a' b' r' f', runFor (.tup (.cons (.name 9) (.cons (.name 10) .nil))) bd_count_mixed_rows_1 (ks.map kD) (ρM z o (gS g) (hS h) c e a b t r f) = .nx (ρM z o (gS g) (hS h) c e a' b' (t + (ks.map (ms g h z o c)).sum) r' f')
  | [], t, a, b, r, f, _, _, _ => ⟨a, b, r, f, rfl⟩
  | p :: ks, t, a, b, r, f, hk, ha, hb => by
    obtain ⟨a1, b1, ha1, hb1, e1⟩ := mx_step (g := g) (h := h) (c := c) (t := t) (e := e) (hk p List.mem_cons_self) ho ha hb
    obtain ⟨a2, b2, r2, f2, e2⟩ := mx_loop (g := g) (h := h) (z := z) (o := o) (c := c) (e := e) ho ks (t + ms g h z o c p) a1 b1 (some (.val (.int p.1))) (some (.val (.int p.2))) (fun q hq => hk q (List.mem_cons_of_mem _ hq)) ha1 hb1
    refine ⟨a2, b2, r2, f2, ?_⟩
    rw [List.map_cons, List.map_cons, List.sum_cons, ← Nat.add_assoc]
    unfold runFor
    have as : (Tg.tup (.cons (.name 9) (.cons (.name 10) .nil))).asg (kD p) (ρM z o (gS g) (hS h) c e a b t r f) = some (ρM z o (gS g) (hS h) c e a b t (some (.val (.int p.1))) (some (.val (.int p.2)))) := rfl
    rw [as]
    simp only
    rw [e1]
    exact e2
theorem v_mixed {g h z o c : Nat} {z' o' c' : Int} (hz' : z' = z) (ho' : o' = o) (hc' : c' = c) (ho : o ≤ 60) (hn : z + o ≤ 3000) : callV c_count_mixed_rows [.int z', .int o', .str (gS g), .str (hS h), .int c'] = .ok (.val (.int (cm g h z o c))) := by
  subst hz' ho' hc'
  obtain ⟨a', b', r', f', lp⟩ := mx_loop (g := g) (h := h) (z := z) (o := o) (c := c) (e := some (.val (.int c))) ho (kinds (z + o)) 0 (some (.own (.lst (tabL (Dv z) (z + o + 1))))) (some (.own (.lst (tabL (Dv o) (z + o + 1))))) none none (fun _ h => h) (.inl rfl) (.inl rfl)
  have ec : ((kinds (z + o)).map (ms g h z o c)).sum = cm g h z o c := rfl
  rw [ec, Nat.zero_add] at lp
  have k1 := v_check_length (n := (z : Int) + o) (m := 3000) (by omega) (by omega)
  have k2 := v_check_words (g := g) (h := h)
  have c1 := v_check_count (n := (z : Int)) (by omega)
  have c2 := v_check_count (n := (o : Int)) (by omega)
  have c3 := v_check_count (n := (c : Int)) (by omega)
  have d1 := v_divisions (n := z) (m := z + o) (by omega) (by omega)
  have d2 := v_divisions (n := o) (m := z + o) (by omega) (by omega)
  have kk := v_kinds (n := z + o) (by omega)
  have cz : (((z + o : Nat)) : Int) = (z : Int) + o := by omega
  rw [cz] at d1 d2 kk
  generalize gS g = y at *
  generalize hS h = w at *
  generalize tabL (Dv z) (z + o + 1) = LA at *
  generalize tabL (Dv o) (z + o + 1) = LB at *
  generalize (kinds (z + o)).map kD = ps at *
  have s0 : sFor (srcOf gTupI (dAll DL.gTup [.e (dVar 0), .e (dVar 1), .e (dVar 4)])) (.name 5) bd_count_mixed_rows_0 [some (.val (.int z)), some (.val (.int o)), some (.val (.str y)), some (.val (.str w)), some (.val (.int c)), none, none, none, none, none, none] = .nx [some (.val (.int z)), some (.val (.int o)), some (.val (.str y)), some (.val (.str w)), some (.val (.int c)), some (.val (.int c)), none, none, none, none, none] := by
    simp -implicitDefEqProofs [callC, ownsIn, backD, sRet, sSeq, sIf, sSet, sNil, sDrop, sRaise, dVar, dBin, dUn, dAnd, dOr, dNot, dIf, dAll, dCall, dMake, runArgs, gIsi, List.replicate, sFor, srcOf, gTupI, runFor, Tg.asg, bd_count_mixed_rows_0, c1, c2, c3]
  simp only [ρM, Int.natCast_zero] at lp
  generalize cm g h z o c = res at *
  unfold callV c_count_mixed_rows b_count_mixed_rows
  generalize sFor (srcOf gTupI (dAll DL.gTup [.e (dVar 0), .e (dVar 1), .e (dVar 4)])) (.name 5) bd_count_mixed_rows_0 = st at *
  generalize bd_count_mixed_rows_1 = bd at *
  simp -implicitDefEqProofs [callC, ownsIn, backD, sRet, sSeq, sIf, sSet, sNil, sDrop, sRaise, dVar, dBin, dUn, dAnd, dOr, dNot, dIf, dAll, dCall, dMake, runArgs, gIsi, List.replicate, s0, k1, k2, sPar, runRs, putAll, d1, d2, kk, sFor, srcOf, gLstI, lp]
end G

set_option maxRecDepth 100000
set_option maxHeartbeats 4000000
/-! Qtextof: a row's text, by its runs. -/
namespace G
open PySem PySem.Spec L2 DL
theorem v_row_first {c : Nat} {ns : List Nat} : callV c_Row_p_first [rowD c ns] = .ok (.val (.int c)) := by
  unfold callV
  simp -implicitDefEqProofs [callC, ownsIn, backD, sRet, sSeq, sIf, sSet, sNil, sDrop, sRaise, dVar, dBin, dUn, dAnd, dOr, dNot, dIf, dAll, dCall, dMake, runArgs, gIsi, List.replicate, c_Row_p_first, b_Row_p_first, f_colour]
theorem v_row_length {c : Nat} {ns : List Nat} : callV c_Row_p_length [rowD c ns] = .ok (.val (.int (ns.sum : Nat))) := by
  unfold callV
  simp -implicitDefEqProofs [callC, ownsIn, backD, sRet, sSeq, sIf, sSet, sNil, sDrop, sRaise, dVar, dBin, dUn, dAnd, dOr, dNot, dIf, dAll, dCall, dMake, runArgs, gIsi, List.replicate, c_Row_p_length, b_Row_p_length, f_sizes]
theorem v_row_lengths {c : Nat} {ns : List Nat} : callV c_Row_p_lengths [rowD c ns] = .ok (.own (.lst (nL ns))) := by
  unfold callV
  simp -implicitDefEqProofs [callC, ownsIn, backD, sRet, sSeq, sIf, sSet, sNil, sDrop, sRaise, dVar, dBin, dUn, dAnd, dOr, dNot, dIf, dAll, dCall, dMake, runArgs, gIsi, List.replicate, c_Row_p_lengths, b_Row_p_lengths, f_sizes]
def bsD (bs : List (List Nat)) : List D := bs.map fun b => D.str (bitsS b)
theorem text_step {a : Option R} {bs : List (List Nat)} {c n : Nat} (hc : c ≤ 1) (hn : n ≤ 2000) (hl : bs.length ≤ 2000) :
    bd_text_of_0 [a, some (.own (.lst (bsD bs))), some (.val (.int c)), some (.val (.int n))] = .nx [a, some (.own (.lst (bsD (bs ++ [List.replicate n c])))), some (.val (.int (1 - c : Nat))), some (.val (.int n))] := by
  have c1 : ((1 - c : Nat) : Int) = 1 - (c : Int) := by omega
  have g := gStr_bit hc
  have m : gMulS (.str (bitsS [c])) (.int n) = .ok (.val (.str (bitsS (List.replicate n c)))) := by
    simp only [gMulS]
    rw [if_pos ⟨by omega, by omega, by rw [bits_len]; simp; omega⟩, mul_bits]
  have hz : (bsD bs).length < sizeLine := by unfold bsD; rw [List.length_map]; unfold sizeLine; omega
  have ap : bsD (bs ++ [List.replicate n c]) = bsD bs ++ [.str (bitsS (List.replicate n c))] := by simp [bsD]
  rw [ap, c1]
  generalize bsD bs = L at *
  generalize bitsS (List.replicate n c) = z at *
  generalize bitsS [c] = w at *
  simp -implicitDefEqProofs [callC, ownsIn, backD, sRet, sSeq, sIf, sSet, sNil, sDrop, sRaise, dVar, dBin, dUn, dAnd, dOr, dNot, dIf, dAll, dCall, dMake, runArgs, gIsi, List.replicate, bd_text_of_0, g, m, dAppend, hz]
def runsB : Nat → List Nat → List (List Nat)
  | _, [] => []
  | c, n :: ns => List.replicate n c :: runsB (1 - c) ns
theorem runsB_flat : ∀ (c : Nat) (ns : List Nat), (runsB c ns).flatten = expand c ns
  | _, [] => rfl
  | c, n :: ns => by simp [runsB, expand, runsB_flat (1 - c) ns]
theorem text_loop {a : Option R} : ∀ (ns : List Nat) (bs : List (List Nat)) (c : Nat) (y : Option R), c ≤ 1 → (∀ n ∈ ns, n ≤ 2000) → bs.length + ns.length ≤ 2000 →
    ∃ c' y', runFor (.name 3) bd_text_of_0 (nL ns) [a, some (.own (.lst (bsD bs))), some (.val (.int c)), y] = .nx [a, some (.own (.lst (bsD (bs ++ runsB c ns)))), c', y']
  | [], bs, c, y, _, _, _ => ⟨some (.val (.int c)), y, by simp [runsB, runFor, nL]⟩
  | n :: ns, bs, c, y, hc, hn, hl => by
    simp only [List.length_cons] at hl
    have e1 := text_step (a := a) (bs := bs) (c := c) (n := n) hc (hn n List.mem_cons_self) (by omega)
    obtain ⟨c', y', e2⟩ := text_loop (a := a) ns (bs ++ [List.replicate n c]) (1 - c) (some (.val (.int n))) (by omega) (fun m hm => hn m (List.mem_cons_of_mem _ hm)) (by simp; omega)
    refine ⟨c', y', ?_⟩
    rw [nL_cons]
    unfold runFor
    simp only [Tg.asg, List.set_cons_succ, List.set_cons_zero]
    rw [e1]
    have e3 : bs ++ runsB c (n :: ns) = (bs ++ [List.replicate n c]) ++ runsB (1 - c) ns := by simp [runsB]
    rw [e3]
    exact e2
theorem v_text_row {c : Nat} {ns : List Nat} (hc : c ≤ 1) (hn : ns.length ≤ 2000) (hl : ns.sum ≤ 2000) : callV c_text_of [rowD c ns] = .ok (.val (.str (bitsS (expand c ns)))) := by
  have hm : ∀ n ∈ ns, n ≤ 2000 := fun n h => Nat.le_trans (le_sum h) hl
  obtain ⟨c', y', lp⟩ := text_loop (a := some (.val (rowD c ns))) ns [] c none hc hm (by simpa using hn)
  rw [List.nil_append] at lp
  have len : (expand c ns).length = ns.sum := expand_len c ns
  have j := gJoin_bits (bs := runsB c ns) (by rw [runsB_flat, len]; omega)
  rw [runsB_flat] at j
  have l := v_row_length (c := c) (ns := ns)
  have k : ¬ (2000 : Int) < (ns.sum : Int) := by omega
  have vf := v_row_first (c := c) (ns := ns)
  have vl := v_row_lengths (c := c) (ns := ns)
  have ri := row_is (c := c) (ns := ns)
  have e0 : bsD [] = [] := rfl
  rw [e0] at lp
  have eb : (runsB c ns).map (fun b => D.str (bitsS b)) = bsD (runsB c ns) := rfl
  rw [eb] at j
  generalize ns.sum = S at *
  generalize bsD (runsB c ns) = B at *
  generalize rowD c ns = x at *
  generalize nL ns = L at *
  generalize bitsS (expand c ns) = z at *
  unfold callV
  simp -implicitDefEqProofs [callC, ownsIn, backD, sRet, sSeq, sIf, sSet, sNil, sDrop, sRaise, dVar, dBin, dUn, dAnd, dOr, dNot, dIf, dAll, dCall, dMake, runArgs, gIsi, List.replicate, c_text_of, b_text_of, dProp, ri, l, k, sPar, runRs, putAll, vf, sFor, srcOf, gLstI, vl, lp, dJoin, j]
end G

set_option maxRecDepth 100000
set_option maxHeartbeats 4000000
/-! Qworst: the greatest cost, a row with it. -/
namespace G
open PySem PySem.Spec L2 DL
def kd3 (g h : Nat) (p : Kd) : List Int := [(pc g h p.1 p.2 : Nat), (p.1 : Nat), (p.2 : Nat)]
theorem gt_t {g h : Nat} {a b : Kd} (q : gtI (kd3 g h a) (kd3 g h b) = true) : pc g h b.1 b.2 ≤ pc g h a.1 a.2 := by
  simp only [gtI, kd3, lexF] at q
  by_cases e : ((pc g h a.1 a.2 : Nat) : Int) = ((pc g h b.1 b.2 : Nat) : Int)
  · omega
  · rw [if_neg e] at q
    have := of_decide_eq_true q
    omega
theorem gt_f {g h : Nat} {a b : Kd} (q : ¬ gtI (kd3 g h a) (kd3 g h b) = true) : pc g h a.1 a.2 ≤ pc g h b.1 b.2 := by
  simp only [gtI, kd3, lexF] at q
  by_cases e : ((pc g h a.1 a.2 : Nat) : Int) = ((pc g h b.1 b.2 : Nat) : Int)
  · omega
  · rw [if_neg e] at q
    have : ¬ ((pc g h b.1 b.2 : Nat) : Int) < ((pc g h a.1 a.2 : Nat) : Int) := fun z => q (decide_eq_true z)
    omega
theorem best3 {g h : Nat} : ∀ (xs : List Kd) (x : Kd), ∃ q, q ∈ x :: xs ∧ bestOf gtI (kd3 g h x) (xs.map (kd3 g h)) = kd3 g h q ∧ ∀ y ∈ x :: xs, pc g h y.1 y.2 ≤ pc g h q.1 q.2
  | [], x => ⟨x, List.mem_cons_self, rfl, fun y hy => by rw [List.mem_singleton] at hy; rw [hy]; exact Nat.le_refl _⟩
  | y :: ys, x => by
    by_cases e : gtI (kd3 g h y) (kd3 g h x) = true
    · obtain ⟨q, h1, h2, h3⟩ := best3 (g := g) (h := h) ys y
      refine ⟨q, List.mem_cons_of_mem _ h1, ?_, fun z hz => ?_⟩
      · rw [← h2]
        simp only [bestOf, List.map_cons, List.foldl_cons]
        rw [if_pos e]
      · rcases List.mem_cons.mp hz with rfl | hz
        · exact Nat.le_trans (gt_t e) (h3 y List.mem_cons_self)
        · exact h3 z hz
    · obtain ⟨q, h1, h2, h3⟩ := best3 (g := g) (h := h) ys x
      refine ⟨q, ?_, ?_, fun z hz => ?_⟩
      · rcases List.mem_cons.mp h1 with rfl | h1
        · exact List.mem_cons_self
        · exact List.mem_cons_of_mem _ (List.mem_cons_of_mem _ h1)
      · rw [← h2]
        simp only [bestOf, List.map_cons, List.foldl_cons]
        rw [if_neg e]
      · rcases List.mem_cons.mp hz with rfl | hz
        · exact h3 _ List.mem_cons_self
        · rcases List.mem_cons.mp hz with rfl | hz
          · exact Nat.le_trans (gt_f e) (h3 x List.mem_cons_self)
          · exact h3 z (List.mem_cons_of_mem _ hz)
theorem kinds_ne (n : Nat) : kinds n ≠ [] := by
  intro e
  rcases Nat.eq_zero_or_pos n with h | h
  · subst h; simp [kinds] at e
  · have := in_kinds (n := n) (r := 1) (f := 0) (by omega) h (by omega)
    rw [e] at this
    cases this
theorem kinds_len (n : Nat) : (kinds n).length ≤ 2 * n + 1 := by
  unfold kinds
  split
  · simp
  · have e : ∀ l : List Nat, (l.flatMap fun i => [((i + 1, 0) : Kd), (i + 1, 1)]).length = 2 * l.length := fun l => by
      induction l with
      | nil => rfl
      | cons a l ih => rw [List.flatMap_cons, List.length_append, ih]; simp; omega
    rw [e, List.length_range]
    omega
structure Wk (g h n c r f : Nat) : Prop where
  mem : (r, f) ∈ kinds n
  val : c = pc g h r f
  top : ∀ p ∈ kinds n, pc g h p.1 p.2 ≤ c
  ev : callV c_worst_kind [.int n, .str (gS g), .str (hS h)] = .ok (.val (.tup [.int c, .int r, .int f]))
theorem v_worst_kind {g h n : Nat} (hn : n ≤ 5000) : ∃ c r f, Wk g h n c r f := by
  obtain ⟨p, ps, e⟩ := List.exists_cons_of_ne_nil (kinds_ne n)
  obtain ⟨q, h1, h2, h3⟩ := best3 (g := g) (h := h) ps p
  refine ⟨pc g h q.1 q.2, q.1, q.2, ⟨by rw [e]; exact h1, rfl, fun z hz => h3 z (by rw [← e]; exact hz), ?_⟩⟩
  have k := v_kinds hn
  have lc := runLc_mapG (vs := [4, 5]) (tg := .tup (.cons (.name 4) (.cons (.name 5) .nil))) (te := el_worst_kind_0) (ρ := [some (.val (.int n)), some (.val (.str (gS g))), some (.val (.str (hS h))), none, none, none]) (g := kD) (f := fun p => D.tup ((kd3 g h p).map D.int)) (kinds n) [] (fun p hp => by
    have hf := (kinds_mem (n := n) (r := p.1) (f := p.2) hp).1
    have c := v_plain_cost (g := g) (h := h) (r := p.1) hf
    refine ⟨[some (.val (.int n)), some (.val (.str (gS g))), some (.val (.str (hS h))), none, some (.val (.int p.1)), some (.val (.int p.2))], [some (.val (.int n)), some (.val (.str (gS g))), some (.val (.str (hS h))), none, some (.val (.int p.1)), some (.val (.int p.2))], .val (D.tup ((kd3 g h p).map D.int)), rfl, ?_, rfl, rfl⟩
    generalize gS g = y at *
    generalize hS h = z at *
    simp -implicitDefEqProofs [callC, ownsIn, backD, sRet, sSeq, sIf, sSet, sNil, sDrop, sRaise, dVar, dBin, dUn, dAnd, dOr, dNot, dIf, dAll, dCall, dMake, runArgs, gIsi, List.replicate, el_worst_kind_0, c, kd3]) (by have := kinds_len n; unfold sizeLine; simp only [List.length_nil]; omega)
  rw [List.nil_append] at lc
  have b : gBestT gtI [.lst ((kinds n).map fun p => D.tup ((kd3 g h p).map D.int))] = .ok (.val (.tup [.int (pc g h q.1 q.2 : Nat), .int (q.1 : Nat), .int (q.2 : Nat)])) := by
    have t : tupsOf ((kinds n).map fun p => D.tup ((kd3 g h p).map D.int)) = some ((kinds n).map (kd3 g h)) := by
      have := tupsOf_map ((kinds n).map (kd3 g h))
      rw [List.map_map] at this
      exact this
    simp only [gBestT]
    rw [t, e, List.map_cons]
    simp only
    rw [h2]
    rfl
  generalize gS g = y at *
  generalize hS h = z at *
  unfold callV
  simp -implicitDefEqProofs [callC, ownsIn, backD, sRet, sSeq, sIf, sSet, sNil, sDrop, sRaise, dVar, dBin, dUn, dAnd, dOr, dNot, dIf, dAll, dCall, dMake, runArgs, gIsi, List.replicate, c_worst_kind, b_worst_kind, dLc, srcOf, gLstI, wipeD, k, lc, b]
def wNs (n r : Nat) : List Nat := if r = 0 then [] else (n + 1 - r) :: List.replicate (r - 1) 1
theorem wNs_len (n r : Nat) : (wNs n r).length = r := by
  unfold wNs
  split
  · simp; omega
  · simp; omega
theorem wNs_sum {n r : Nat} (h : r ≤ n) (h0 : r = 0 → n = 0) : (wNs n r).sum = n := by
  unfold wNs
  split
  · rename_i e; simp [h0 e]
  · rw [List.sum_cons, List.sum_replicate_nat]
    omega
theorem wRow {n r f : Nat} (hm : (r, f) ∈ kinds n) (hn : n ≤ 2000) : RowOk f (wNs n r) := by
  obtain ⟨h1, h2, h3, h4⟩ := kinds_mem hm
  refine { col := h1, pos := ?_, len := by rw [wNs_len]; omega, sum := ?_, emp := fun e => ?_ }
  · intro x hx
    unfold wNs at hx
    split at hx
    · cases hx
    · rcases List.mem_cons.mp hx with rfl | hx
      · omega
      · have := List.eq_of_mem_replicate hx; omega
  · rw [wNs_sum h2 (fun e => by omega)]
    unfold maxLen
    omega
  · have := congrArg List.length e
    rw [wNs_len] at this
    simp at this
    rcases Nat.eq_zero_or_pos n with h | h
    · exact (h3 h).2
    · have := h4 h; omega
theorem asg_2 {i j : Nat} {a b : D} {ρ : Slots} : (Tg.tup (.cons (.name i) (.cons (.name j) .nil))).asg (.tup [a, b]) ρ = some ((ρ.set i (some (.val a))).set j (some (.val b))) := rfl
theorem sl_1 {a b c : D} : gSlT (.tup [a, b, c]) (some 1) none = .ok (.val (.tup [b, c])) := rfl
theorem v_worst_row {g h n c r f : Nat} (k : Wk g h n c r f) (hn : n ≤ 2000) : callV c_worst_row [.int n, .str (gS g), .str (hS h)] = .ok (.own (rowM f (wNs n r))) := by
  have ok := wRow k.mem hn
  obtain ⟨h1, h2, h3, h4⟩ := kinds_mem k.mem
  have kl := v_check_length (n := (n : Int)) (m := 2000) (by omega) (by omega)
  have kw := v_check_words (g := g) (h := h)
  have kv := k.ev
  have mk := fun ρ => make_row (ρ := ρ) ok
  generalize gS g = y at *
  generalize hS h = z at *
  by_cases e : r = 0
  · subst e
    have hf : f = 0 := by
      rcases Nat.eq_zero_or_pos n with h | h
      · exact (h3 h).2
      · have := h4 h; omega
    subst hf
    have e1 : wNs n 0 = [] := rfl
    rw [e1] at mk ⊢
    simp only [Int.natCast_zero, nL_nil] at mk kv
    unfold callV
    simp -implicitDefEqProofs [callC, ownsIn, backD, sRet, sSeq, sIf, sSet, sNil, sDrop, sRaise, dVar, dBin, dUn, dAnd, dOr, dNot, dIf, dAll, dCall, dMake, runArgs, gIsi, List.replicate, c_worst_row, b_worst_row, kl, kw, kv, dSlT, PtD.run, sl_1, sUnp, asg_2, mk]
  · have q : (0 : Int) < (r : Int) := by omega
    have q' : 0 < r := by omega
    have lc := runLc_mapG (vs := [5]) (tg := .name 5) (te := el_worst_row_0) (ρ := [some (.val (.int n)), some (.val (.str y)), some (.val (.str z)), some (.val (.int r)), some (.val (.int f)), none]) (g := fun (i : Nat) => D.int (0 + (i : Int))) (f := fun _ => D.int 1) (List.range (r - 1)) [] (fun i hi => ⟨[some (.val (.int n)), some (.val (.str y)), some (.val (.str z)), some (.val (.int r)), some (.val (.int f)), some (.val (.int (0 + (i : Int))))], [some (.val (.int n)), some (.val (.str y)), some (.val (.str z)), some (.val (.int r)), some (.val (.int f)), some (.val (.int (0 + (i : Int))))], .val (.int 1), rfl, by simp -implicitDefEqProofs [callC, ownsIn, backD, sRet, sSeq, sIf, sSet, sNil, sDrop, sRaise, dVar, dBin, dUn, dAnd, dOr, dNot, dIf, dAll, dCall, dMake, runArgs, gIsi, List.replicate, el_worst_row_0], rfl, rfl⟩) (by unfold sizeLine; simp; omega)
    have e3 : rangeD 0 (r - 1) = (List.range (r - 1)).map fun (i : Nat) => D.int (0 + (i : Int)) := rfl
    rw [← e3, List.nil_append] at lc
    have src : srcR1 [.e (dBin gSub (dVar 3) (dC (.int 1)))] [some (.val (.int n)), some (.val (.str y)), some (.val (.str z)), some (.val (.int r)), some (.val (.int f)), none] = .ok (rangeD 0 (r - 1)) [some (.val (.int n)), some (.val (.str y)), some (.val (.str z)), some (.val (.int r)), some (.val (.int f)), none] := by
      have k1 : (r : Int) - 1 < 4611686018427387904 := by omega
      have k2 : -4611686018427387904 ≤ (r : Int) - 1 := by omega
      have k3 : ((r : Int) - 1).toNat = r - 1 := by omega
      simp -implicitDefEqProofs [callC, ownsIn, backD, sRet, sSeq, sIf, sSet, sNil, sDrop, sRaise, dVar, dBin, dUn, dAnd, dOr, dNot, dIf, dAll, dCall, dMake, runArgs, gIsi, List.replicate, srcA, kR1, k1, k2, k3]
    have e4 : D.int ((n : Int) + 1 - r) :: (List.range (r - 1)).map (fun _ => D.int 1) = nL (wNs n r) := by
      unfold wNs
      rw [if_neg e, nL_cons]
      have e5 : (n : Int) + 1 - r = ((n + 1 - r : Nat) : Int) := by omega
      have e6 : (List.range (r - 1)).map (fun _ => D.int 1) = nL (List.replicate (r - 1) 1) := by
        rw [List.map_const', List.length_range]
        simp [nL, nD]
      rw [e5, e6]
    generalize (List.range (r - 1)).map (fun _ => D.int 1) = xs at *
    have gl : DL.gLst (D.int ((n : Int) + 1 - r) :: xs) = .ok (.own (.lst (nL (wNs n r)))) := by
      rw [← e4]
      have : (D.int ((n : Int) + 1 - r) :: xs).length = r := by rw [e4]; simp [wNs_len]
      exact gLst_ok (by rw [this]; unfold sizeLine; omega)
    unfold callV c_worst_row b_worst_row
    generalize srcR1 [.e (dBin gSub (dVar 3) (dC (.int 1)))] = src1 at *
    simp -implicitDefEqProofs [callC, ownsIn, backD, sRet, sSeq, sIf, sSet, sNil, sDrop, sRaise, dVar, dBin, dUn, dAnd, dOr, dNot, dIf, dAll, dCall, dMake, runArgs, gIsi, List.replicate, kl, kw, kv, dSlT, PtD.run, sl_1, sUnp, asg_2, mk, q, q', dAllS, runS, dLc, src, wipeD, lc, gl]
end G

set_option maxRecDepth 100000
set_option maxHeartbeats 4000000
/-! Qkgood: what is to be checked of the 48 searches. -/
namespace G
open PySem PySem.Spec L2 DL
def meanM : Nat → Nat → Nat → Nat × Nat
  | 0, t, m => (t, m)
  | f + 1, t, m => if t % 2 = 0 ∧ m % 2 = 0 then meanM f (t / 2) (m / 2) else meanM f t m
def toldM (kv : KV) : List Int := kv.map fun p => (p.2 : Int)
def mostM (kv : KV) : Int := match toldM kv with
  | [] => 0
  | n :: ns => maxL n ns
abbrev Good (n g h : Nat) (kv : KV) : Prop :=
  (kv.length ≤ 1000 ∧ kv ≠ [] ∧ tc g h n ≤ 100000) ∧
  (∀ p ∈ kv, p.1.length ≤ 1000 ∧ Txt.count (bitsS p.1) (Str.ofString "1") = ((p.1.count 1 : Nat) : Int) ∧ look kv p.1 = some p.2) ∧
  (∀ r ∈ List.range (n + 3), cr n r = (kv.filter fun p => runsM p.1 == r).length ∧ cw g h n r = (toldM kv).count (r : Int)) ∧
  ((tc g h n : Nat) : Int) = (toldM kv).sum ∧
  (∀ k ∈ List.range (n + 1), tc g h n / 2 ^ (n - k) * 2 ^ (n - k) = tc g h n → ((tc g h n / 2 ^ (n - k)) % 2 = 1 ∨ k = 0) → meanM 10 (tc g h n) kv.length = (tc g h n / 2 ^ (n - k), 2 ^ k)) ∧
  (∀ p ∈ kinds n, (∀ q ∈ kinds n, pc g h q.1 q.2 ≤ pc g h p.1 p.2) → ((pc g h p.1 p.2 : Nat) : Int) = mostM kv ∧ look kv (expand p.2 (wNs n p.1)) = some (pc g h p.1 p.2) ∧ (expand p.2 (wNs n p.1)).length = n) ∧
  (∀ o ∈ List.range (n + 1), ∀ c ∈ List.range (n + 2), cm g h (n - o) o c = (kv.filter fun p => (p.1.count 1 == o) && (p.2 == c)).length)
noncomputable def chk (n g h : Nat) : Bool := match costsM n g h with
  | none => false
  | some kv => force kv fun kv => decide (Good n g h kv)
theorem chk_of {n g h : Nat} (hc : chk n g h = true) : ∃ kv, costsM n g h = some kv ∧ Good n g h kv := by
  unfold chk at hc
  split at hc
  · cases hc
  · rename_i kv e
    rw [force_eq] at hc
    exact ⟨kv, e, of_decide_eq_true hc⟩
end G

set_option maxRecDepth 100000
set_option maxHeartbeats 4000000
/-! Qkright: the law's checks of one length, game and goal. -/
namespace G
open PySem PySem.Spec L2 DL
/-! ### the mean -/
theorem mean_step {t m : Nat} {x : Option R} : bd_l_mean_0 [some (.val (.int t)), some (.val (.int m)), x] = .nx (if t % 2 = 0 ∧ m % 2 = 0 then [some (.val (.int (t / 2 : Nat))), some (.val (.int (m / 2 : Nat))), x] else [some (.val (.int t)), some (.val (.int m)), x]) := by
  have a := mod2 t
  have b := mod2 m
  have c := div2 t
  have d := div2 m
  have ea : gEq (.int (t % 2 : Nat)) (.int 0) = .ok (.val (.bl (decide (t % 2 = 0)))) := by
    have : decide (((t % 2 : Nat) : Int) = 0) = decide (t % 2 = 0) := decide_eq_decide.mpr (by omega)
    rw [gEq_int, this]
  have eb : gEq (.int (m % 2 : Nat)) (.int 0) = .ok (.val (.bl (decide (m % 2 = 0)))) := by
    have : decide (((m % 2 : Nat) : Int) = 0) = decide (m % 2 = 0) := decide_eq_decide.mpr (by omega)
    rw [gEq_int, this]
  generalize ((t % 2 : Nat) : Int) = t1 at *
  generalize ((m % 2 : Nat) : Int) = m1 at *
  generalize ((t / 2 : Nat) : Int) = t2 at *
  generalize ((m / 2 : Nat) : Int) = m2 at *
  by_cases h1 : t % 2 = 0
  · by_cases h2 : m % 2 = 0
    · rw [if_pos ⟨h1, h2⟩]
      simp only [h1, h2, decide_true] at ea eb
      simp -implicitDefEqProofs [callC, ownsIn, backD, sRet, sSeq, sIf, sSet, sNil, sDrop, sRaise, dVar, dBin, dUn, dAnd, dOr, dNot, dIf, dAll, dCall, dMake, runArgs, gIsi, List.replicate, bd_l_mean_0, a, b, ea, eb, sPar, runRs, putAll, c, d]
    · rw [if_neg (fun q => h2 q.2)]
      simp only [h1, h2, decide_true, decide_false] at ea eb
      simp -implicitDefEqProofs [callC, ownsIn, backD, sRet, sSeq, sIf, sSet, sNil, sDrop, sRaise, dVar, dBin, dUn, dAnd, dOr, dNot, dIf, dAll, dCall, dMake, runArgs, gIsi, List.replicate, bd_l_mean_0, a, b, ea, eb]
  · rw [if_neg (fun q => h1 q.1)]
    simp only [h1, decide_false] at ea
    simp -implicitDefEqProofs [callC, ownsIn, backD, sRet, sSeq, sIf, sSet, sNil, sDrop, sRaise, dVar, dBin, dUn, dAnd, dOr, dNot, dIf, dAll, dCall, dMake, runArgs, gIsi, List.replicate, bd_l_mean_0, a, ea]
theorem mean_for : ∀ (ds : List D) (t m : Nat) (x : Option R), ∃ x', runFor (.name 2) bd_l_mean_0 ds [some (.val (.int t)), some (.val (.int m)), x] = .nx [some (.val (.int (meanM ds.length t m).1)), some (.val (.int (meanM ds.length t m).2)), x']
  | [], t, m, x => ⟨x, rfl⟩
  | d :: ds, t, m, x => by
    have e := mean_step (t := t) (m := m) (x := some (.val d))
    unfold runFor
    simp only [Tg.asg, List.set_cons_succ, List.set_cons_zero]
    rw [List.length_cons]
    unfold meanM
    by_cases h : t % 2 = 0 ∧ m % 2 = 0
    · rw [if_pos h] at e
      rw [if_pos h, e]
      exact mean_for ds (t / 2) (m / 2) _
    · rw [if_neg h] at e
      rw [if_neg h, e]
      exact mean_for ds t m _
theorem v_l_mean {t m : Nat} {t' m' : Int} (ht : t' = t) (hm : m' = m) : callV c_l_mean [.int t', .int m'] = .ok (.val (.tup [.int (meanM 10 t m).1, .int (meanM 10 t m).2])) := by
  subst ht hm
  obtain ⟨x', e⟩ := mean_for (rangeD 0 10) t m none
  have hz : (rangeD 0 10).length = 10 := by simp [rangeD]
  rw [hz] at e
  have src : srcR1 [.e (dC (.int 10))] [some (.val (.int t)), some (.val (.int m)), none] = .ok (rangeD 0 10) [some (.val (.int t)), some (.val (.int m)), none] := by
    simp -implicitDefEqProofs [callC, ownsIn, backD, sRet, sSeq, sIf, sSet, sNil, sDrop, sRaise, dVar, dBin, dUn, dAnd, dOr, dNot, dIf, dAll, dCall, dMake, runArgs, gIsi, List.replicate, srcA, kR1]
  have f := sFor_of src e
  unfold callV c_l_mean b_l_mean
  generalize sFor (srcR1 [.e (dC (.int 10))]) (.name 2) bd_l_mean_0 = st at *
  generalize (meanM 10 t m).1 = A at *
  generalize (meanM 10 t m).2 = B at *
  simp -implicitDefEqProofs [callC, ownsIn, backD, sRet, sSeq, sIf, sSet, sNil, sDrop, sRaise, dVar, dBin, dUn, dAnd, dOr, dNot, dIf, dAll, dCall, dMake, runArgs, gIsi, List.replicate, f]
/-! ### the numbers -/
abbrev tD (kv : KV) : List D := (toldM kv).map D.int
theorem vs_told (kv : KV) : kv.map vOf = tD kv := by
  unfold tD toldM
  rw [List.map_map]
  rfl
abbrev ρR (n : Nat) (y z : Str) (kv : KV) (a4 : Option R) (m : Int) (r6 a7 : Option R) : Slots :=
  [some (.val (.int n)), some (.val (.str y)), some (.val (.str z)), some (.val (.dif (kv.map kOf) (tD kv))), a4, some (.val (.int m)), r6, a7, none]
theorem dk_map (kv : KV) : (kv.map kOf).map dKey = kv.map fun p => wD p.1 := by
  rw [List.map_map]
  rfl
theorem right_step {n g h r : Nat} {m : Int} {kv : KV} {a4 a7 : Option R} (G0 : Good n g h kv) (hn : n < 8) (hr : r < n + 3) (ha : a4 = some (.own (.lst (tD kv))) ∨ a4 = some (.val (.lst (tD kv)))) :
    bd_l_right_0 (ρR n (gS g) (hS h) kv a4 m (some (.val (.int r))) a7) = .nx (ρR n (gS g) (hS h) kv (some (.val (.lst (tD kv)))) m (some (.val (.int r))) a7) := by
  obtain ⟨⟨hz, _, _⟩, hw, hr2, _⟩ := G0
  obtain ⟨c1, c2⟩ := hr2 r (List.mem_range.mpr hr)
  have e1 := v_count_rows (n := n) (r := r) (r' := r) rfl (by omega)
  have e2 := v_count_cost (g := g) (h := h) (n := n) (c := r) (c' := r) rfl (by omega)
  rw [c1] at e1
  rw [c2] at e2
  have lc : ∀ a4 : Option R, runLc [8] (.name 8) ct_l_right_0 el_l_right_0 (kv.map fun p => wD p.1) (ρR n (gS g) (hS h) kv a4 m (some (.val (.int r))) a7) [] = .ok (.own (.lst ((kv.filter fun p => runsM p.1 == r).map fun p => wD p.1))) (ρR n (gS g) (hS h) kv a4 m (some (.val (.int r))) a7) := fun a4 => by
    have := runLc_filG (vs := [8]) (tg := .name 8) (tt := ct_l_right_0) (te := el_l_right_0) (ρ := ρR n (gS g) (hS h) kv a4 m (some (.val (.int r))) a7) (g := fun p : Wd × Nat => wD p.1) (f := fun p => wD p.1) (b := fun p => runsM p.1 == r) kv [] (fun p hp => by
      have v := v_l_runs (hw p hp).1
      have eq : gEq (.int (runsM p.1 : Nat)) (.int r) = .ok (.val (.bl (runsM p.1 == r))) := by
        have q : decide (((runsM p.1 : Nat) : Int) = r) = (runsM p.1 == r) := by
          by_cases h : runsM p.1 = r
          · rw [h]; simp
          · have h2 : ¬ ((runsM p.1 : Nat) : Int) = r := by omega
            simp [h, h2]
        rw [gEq_int, q]
      refine ⟨[some (.val (.int n)), some (.val (.str (gS g))), some (.val (.str (hS h))), some (.val (.dif (kv.map kOf) (tD kv))), a4, some (.val (.int m)), some (.val (.int r)), a7, some (.val (wD p.1))], [some (.val (.int n)), some (.val (.str (gS g))), some (.val (.str (hS h))), some (.val (.dif (kv.map kOf) (tD kv))), a4, some (.val (.int m)), some (.val (.int r)), a7, some (.val (wD p.1))], rfl, ?_, rfl, [some (.val (.int n)), some (.val (.str (gS g))), some (.val (.str (hS h))), some (.val (.dif (kv.map kOf) (tD kv))), a4, some (.val (.int m)), some (.val (.int r)), a7, some (.val (wD p.1))], .val (wD p.1), ?_, rfl, rfl⟩
      · generalize ((runsM p.1 : Nat) : Int) = q1 at *
        generalize (runsM p.1 == r) = bb at *
        generalize wD p.1 = zz at *
        generalize kv.map kOf = ks at *
        generalize tD kv = vs at *
        generalize gS g = y at *
        generalize hS h = z at *
        simp -implicitDefEqProofs [callC, ownsIn, backD, sRet, sSeq, sIf, sSet, sNil, sDrop, sRaise, dVar, dBin, dUn, dAnd, dOr, dNot, dIf, dAll, dCall, dMake, runArgs, gIsi, List.replicate, ct_l_right_0, v, eq]
      · generalize wD p.1 = zz at *
        generalize kv.map kOf = ks at *
        generalize tD kv = vs at *
        generalize gS g = y at *
        generalize hS h = z at *
        simp -implicitDefEqProofs [callC, ownsIn, backD, sRet, sSeq, sIf, sSet, sNil, sDrop, sRaise, dVar, dBin, dUn, dAnd, dOr, dNot, dIf, dAll, dCall, dMake, runArgs, gIsi, List.replicate, el_l_right_0]) (by rw [List.length_nil]; unfold sizeLine; omega)
    rw [List.nil_append] at this
    exact this
  have dk := dk_map kv
  have gl : gLen [.lst ((kv.filter fun p => runsM p.1 == r).map fun p => wD p.1)] = .ok (.val (.int ((kv.filter fun p => runsM p.1 == r).length : Nat))) := by simp [gLen]
  have gc : gCountL (tD kv) (.int r) = .ok (.val (.int ((toldM kv).count (r : Int) : Nat))) := by
    simp only [gCountL, tD]
    rw [intsOf_map]
  generalize (((kv.filter fun p => runsM p.1 == r).length : Nat) : Int) = q1 at *
  generalize (((toldM kv).count (r : Int) : Nat) : Int) = q2 at *
  generalize (kv.filter fun p => runsM p.1 == r).map (fun p => wD p.1) = LL at *
  simp only [ρR] at *
  generalize kv.map (fun p => wD p.1) = LK at *
  generalize kv.map kOf = ks at *
  generalize tD kv = vs at *
  generalize gS g = y at *
  generalize hS h = z at *
  unfold bd_l_right_0
  rcases ha with rfl | rfl
  · simp -implicitDefEqProofs [callC, ownsIn, backD, sRet, sSeq, sIf, sSet, sNil, sDrop, sRaise, dVar, dBin, dUn, dAnd, dOr, dNot, dIf, dAll, dCall, dMake, runArgs, gIsi, List.replicate, e1, e2, dLc, srcOf, dVarL, gDicK, dk, wipeD, lc, gl, dMetL, gc]
  · simp -implicitDefEqProofs [callC, ownsIn, backD, sRet, sSeq, sIf, sSet, sNil, sDrop, sRaise, dVar, dBin, dUn, dAnd, dOr, dNot, dIf, dAll, dCall, dMake, runArgs, gIsi, List.replicate, e1, e2, dLc, srcOf, dVarL, gDicK, dk, wipeD, lc, gl, dMetL, gc]
end G

set_option maxRecDepth 100000
set_option maxHeartbeats 4000000
/-! Qkmixed: the law's check of rows with numbers of both colours. -/
namespace G
open PySem PySem.Spec L2 DL
abbrev ρX (n : Nat) (y z : Str) (kv : KV) (o4 c5 l6 : Option R) : Slots :=
  [some (.val (.dif (kv.map kOf) (tD kv))), some (.val (.int n)), some (.val (.str y)), some (.val (.str z)), o4, c5, l6, none]
theorem nat_eq {a b : Nat} : gEq (.int a) (.int b) = .ok (.val (.bl (a == b))) := by
  have q : decide ((a : Int) = b) = (a == b) := by
    by_cases h : a = b
    · rw [h]; simp
    · have h2 : ¬ (a : Int) = b := by omega
      simp [h, h2]
  rw [gEq_int, q]
theorem mixed_step {n g h o c : Nat} {kv : KV} {l6 : Option R} (G0 : Good n g h kv) (hn : n < 8) (ho : o < n + 1) (hc : c < n + 2) :
    bd_l_mixed_right_0 (ρX n (gS g) (hS h) kv (some (.val (.int o))) (some (.val (.int c))) l6) = .nx (ρX n (gS g) (hS h) kv (some (.val (.int o))) (some (.val (.int c))) (some (.val (.lst ((kv.filter fun p => (p.1.count 1 == o) && (p.2 == c)).map fun p => wD p.1))))) := by
  obtain ⟨⟨hz, _, _⟩, hw, _, _, _, _, hm⟩ := G0
  have c1 := hm o (List.mem_range.mpr ho) c (List.mem_range.mpr hc)
  have e1 := v_mixed (g := g) (h := h) (z := n - o) (o := o) (c := c) (z' := (n : Int) - o) (o' := o) (c' := c) (by omega) rfl rfl (by omega) (by omega)
  rw [c1] at e1
  have lc : runLc [7] (.name 7) ct_l_mixed_right_0 el_l_mixed_right_0 (kv.map fun p => wD p.1) (ρX n (gS g) (hS h) kv (some (.val (.int o))) (some (.val (.int c))) l6) [] = .ok (.own (.lst ((kv.filter fun p => (p.1.count 1 == o) && (p.2 == c)).map fun p => wD p.1))) (ρX n (gS g) (hS h) kv (some (.val (.int o))) (some (.val (.int c))) l6) := by
    have := runLc_filG (vs := [7]) (tg := .name 7) (tt := ct_l_mixed_right_0) (te := el_l_mixed_right_0) (ρ := ρX n (gS g) (hS h) kv (some (.val (.int o))) (some (.val (.int c))) l6) (g := fun p : Wd × Nat => wD p.1) (f := fun p => wD p.1) (b := fun p => (p.1.count 1 == o) && (p.2 == c)) kv [] (fun p hp => by
      obtain ⟨_, tc1, lk⟩ := hw p hp
      have q1 := nat_eq (a := p.1.count 1) (b := o)
      have q2 := nat_eq (a := p.2) (b := c)
      have gd : gDAt (.dif (kv.map kOf) (tD kv)) (wD p.1) = .ok (.val (.int p.2)) := by
        have a := at_look (w := p.1) kv
        rw [lk, vs_told] at a
        simp only [gDAt, keyD, wD]
        rw [a]
        rfl
      have gc : gCountS (wD p.1) (.str (Str.ofString "1")) = .ok (.val (.int (p.1.count 1 : Nat))) := by
        simp only [gCountS, wD]
        rw [tc1]
      refine ⟨[some (.val (.dif (kv.map kOf) (tD kv))), some (.val (.int n)), some (.val (.str (gS g))), some (.val (.str (hS h))), some (.val (.int o)), some (.val (.int c)), l6, some (.val (wD p.1))], [some (.val (.dif (kv.map kOf) (tD kv))), some (.val (.int n)), some (.val (.str (gS g))), some (.val (.str (hS h))), some (.val (.int o)), some (.val (.int c)), l6, some (.val (wD p.1))], rfl, ?_, rfl, [some (.val (.dif (kv.map kOf) (tD kv))), some (.val (.int n)), some (.val (.str (gS g))), some (.val (.str (hS h))), some (.val (.int o)), some (.val (.int c)), l6, some (.val (wD p.1))], .val (wD p.1), ?_, rfl, rfl⟩
      · generalize (p.1.count 1 == o) = b1 at *
        generalize (p.2 == c) = b2 at *
        generalize ((p.1.count 1 : Nat) : Int) = i1 at *
        generalize ((p.2 : Nat) : Int) = i2 at *
        simp only [wD] at *
        generalize bitsS p.1 = zz at *
        generalize kv.map kOf = ks at *
        generalize tD kv = vs at *
        generalize gS g = y at *
        generalize hS h = z at *
        cases b1 <;> simp -implicitDefEqProofs [callC, ownsIn, backD, sRet, sSeq, sIf, sSet, sNil, sDrop, sRaise, dVar, dBin, dUn, dAnd, dOr, dNot, dIf, dAll, dCall, dMake, runArgs, gIsi, List.replicate, ct_l_mixed_right_0, dMetS, gc, q1, q2, dVarL, gd]
      · generalize wD p.1 = zz at *
        generalize kv.map kOf = ks at *
        generalize tD kv = vs at *
        generalize gS g = y at *
        generalize hS h = z at *
        simp -implicitDefEqProofs [callC, ownsIn, backD, sRet, sSeq, sIf, sSet, sNil, sDrop, sRaise, dVar, dBin, dUn, dAnd, dOr, dNot, dIf, dAll, dCall, dMake, runArgs, gIsi, List.replicate, el_l_mixed_right_0]) (by rw [List.length_nil]; unfold sizeLine; omega)
    rw [List.nil_append] at this
    exact this
  have dk := dk_map kv
  have gl : gLen [.lst ((kv.filter fun p => (p.1.count 1 == o) && (p.2 == c)).map fun p => wD p.1)] = .ok (.val (.int ((kv.filter fun p => (p.1.count 1 == o) && (p.2 == c)).length : Nat))) := by simp [gLen]
  generalize (((kv.filter fun p => (p.1.count 1 == o) && (p.2 == c)).length : Nat) : Int) = q1 at *
  generalize (kv.filter fun p => (p.1.count 1 == o) && (p.2 == c)).map (fun p => wD p.1) = LL at *
  simp only [ρX] at *
  generalize kv.map (fun p => wD p.1) = LK at *
  generalize kv.map kOf = ks at *
  generalize tD kv = vs at *
  generalize gS g = y at *
  generalize hS h = z at *
  simp -implicitDefEqProofs [callC, ownsIn, backD, sRet, sSeq, sIf, sSet, sNil, sDrop, sRaise, dVar, dBin, dUn, dAnd, dOr, dNot, dIf, dAll, dCall, dMake, runArgs, gIsi, List.replicate, bd_l_mixed_right_0, e1, dLc, srcOf, dVarL, gDicK, dk, wipeD, lc, gl]
theorem in_rangeD {m j : Nat} {x : D} (hj : (rangeD 0 m)[j]? = some x) : j < m ∧ x = .int (j : Int) := by
  have hj' : j < m := by
    have := (List.getElem?_eq_some_iff.mp hj).1
    simpa [rangeD] using this
  refine ⟨hj', ?_⟩
  simp [rangeD, hj'] at hj
  exact hj.symm
theorem mixed_row {n g h o : Nat} {kv : KV} {c5 l6 : Option R} (G0 : Good n g h kv) (hn : n < 8) (ho : o < n + 1) :
    ∃ c' l', bd_l_mixed_right_1 (ρX n (gS g) (hS h) kv (some (.val (.int o))) c5 l6) = .nx (ρX n (gS g) (hS h) kv (some (.val (.int o))) c' l') := by
  obtain ⟨ρ', e1, e2⟩ := runFor_inv (tg := .name 5) (body := bd_l_mixed_right_0) (fun i ρ => ∃ c' l', ρ = ρX n (gS g) (hS h) kv (some (.val (.int o))) c' l') (rangeD 0 (n + 2)) 0 (ρX n (gS g) (hS h) kv (some (.val (.int o))) c5 l6) ⟨c5, l6, rfl⟩ (fun j x ρ hj hJ => by
    obtain ⟨hj', rfl⟩ := in_rangeD hj
    obtain ⟨c', l', rfl⟩ := hJ
    exact ⟨ρX n (gS g) (hS h) kv (some (.val (.int o))) (some (.val (.int j))) l', _, rfl, mixed_step G0 hn ho hj', _, _, rfl⟩)
  obtain ⟨c', l', rfl⟩ := e2
  refine ⟨c', l', ?_⟩
  have src : srcR1 [.e (dBin gAdd (dVar 1) (dC (.int 2)))] (ρX n (gS g) (hS h) kv (some (.val (.int o))) c5 l6) = .ok (rangeD 0 (n + 2)) (ρX n (gS g) (hS h) kv (some (.val (.int o))) c5 l6) := by
    have k1 : (n : Int) + 2 < 4611686018427387904 := by omega
    have k2 : -4611686018427387904 ≤ (n : Int) + 2 := by omega
    have k3 : ((n : Int) + 2).toNat = n + 2 := by omega
    simp only [ρX]
    generalize kv.map kOf = ks
    generalize tD kv = vs
    generalize gS g = y
    generalize hS h = z
    simp -implicitDefEqProofs [callC, ownsIn, backD, sRet, sSeq, sIf, sSet, sNil, sDrop, sRaise, dVar, dBin, dUn, dAnd, dOr, dNot, dIf, dAll, dCall, dMake, runArgs, gIsi, List.replicate, srcA, kR1, k1, k2, k3]
  exact sFor_of src e1
theorem v_l_mixed {n g h : Nat} {kv : KV} (G0 : Good n g h kv) (hn : n < 8) : callV c_l_mixed_right [.dif (kv.map kOf) (tD kv), .int n, .str (gS g), .str (hS h)] = .ok (.val (.bl true)) := by
  obtain ⟨ρ', e1, e2⟩ := runFor_inv (tg := .name 4) (body := bd_l_mixed_right_1) (fun i ρ => ∃ o' c' l', ρ = ρX n (gS g) (hS h) kv o' c' l') (rangeD 0 (n + 1)) 0 (ρX n (gS g) (hS h) kv none none none) ⟨none, none, none, rfl⟩ (fun j x ρ hj hJ => by
    obtain ⟨hj', rfl⟩ := in_rangeD hj
    obtain ⟨o', c', l', rfl⟩ := hJ
    obtain ⟨c2, l2, e⟩ := mixed_row (c5 := c') (l6 := l') G0 hn hj'
    exact ⟨ρX n (gS g) (hS h) kv (some (.val (.int j))) c' l', _, rfl, e, _, _, _, rfl⟩)
  obtain ⟨o', c', l', rfl⟩ := e2
  have src : srcR1 [.e (dBin gAdd (dVar 1) (dC (.int 1)))] (ρX n (gS g) (hS h) kv none none none) = .ok (rangeD 0 (n + 1)) (ρX n (gS g) (hS h) kv none none none) := by
    have k1 : (n : Int) + 1 < 4611686018427387904 := by omega
    have k2 : -4611686018427387904 ≤ (n : Int) + 1 := by omega
    have k3 : ((n : Int) + 1).toNat = n + 1 := by omega
    simp only [ρX]
    generalize kv.map kOf = ks
    generalize tD kv = vs
    generalize gS g = y
    generalize hS h = z
    simp -implicitDefEqProofs [callC, ownsIn, backD, sRet, sSeq, sIf, sSet, sNil, sDrop, sRaise, dVar, dBin, dUn, dAnd, dOr, dNot, dIf, dAll, dCall, dMake, runArgs, gIsi, List.replicate, srcA, kR1, k1, k2, k3]
  have f := sFor_of src e1
  simp only [ρX] at f
  generalize kv.map kOf = ks at *
  generalize tD kv = vs at *
  generalize gS g = y at *
  generalize hS h = z at *
  unfold callV c_l_mixed_right b_l_mixed_right
  generalize sFor (srcR1 [.e (dBin gAdd (dVar 1) (dC (.int 1)))]) (.name 4) bd_l_mixed_right_1 = st at *
  simp -implicitDefEqProofs [callC, ownsIn, backD, sRet, sSeq, sIf, sSet, sNil, sDrop, sRaise, dVar, dBin, dUn, dAnd, dOr, dNot, dIf, dAll, dCall, dMake, runArgs, gIsi, List.replicate, f]
end G

set_option maxRecDepth 100000
set_option maxHeartbeats 4000000
/-! Qkwhole: all the law asks of one length, game and goal. -/
namespace G
open PySem PySem.Spec L2 DL
theorem v_greatest {g h n c r f : Nat} (k : Wk g h n c r f) (hn : n ≤ 2000) : callV c_greatest_cost [.int n, .str (gS g), .str (hS h)] = .ok (.val (.int c)) := by
  have e1 := v_check_words (g := g) (h := h)
  have e2 := v_check_length (n := (n : Int)) (m := 2000) (by omega) (by omega)
  have e3 := k.ev
  have ix : gIx (.tup [.int c, .int r, .int f]) (.int 0) = .ok (.val (.int c)) := rfl
  generalize gS g = y at *
  generalize hS h = z at *
  unfold callV
  simp -implicitDefEqProofs [callC, ownsIn, backD, sRet, sSeq, sIf, sSet, sNil, sDrop, sRaise, dVar, dBin, dUn, dAnd, dOr, dNot, dIf, dAll, dCall, dMake, runArgs, gIsi, List.replicate, c_greatest_cost, b_greatest_cost, e1, e2, e3, ix]
theorem lg20 {n : Nat} (h : n < 2 ^ 20) : ((n : Int)).natAbs.log2 < 1920 := by
  rw [Int.natAbs_natCast]
  rcases Nat.eq_zero_or_pos n with rfl | hp
  · decide
  · have := (Nat.log2_lt (n := n) (k := 20) (by omega)).mpr h
    omega
theorem repr_pair {i j : Nat} (hi : i < 2 ^ 20) (hj : j < 2 ^ 20) : gRepr2 [.tup [.int i, .int j]] = .ok (.val (.str (pairText i j))) := by
  simp only [gRepr2]
  rw [if_pos ⟨lg20 hi, lg20 hj⟩]
theorem best_told {kv : KV} (h : kv ≠ []) : gBestI maxL [.lst (tD kv)] = .ok (.val (.int (mostM kv))) := by
  simp only [gBestI, tD]
  rw [intsOf_map]
  unfold mostM
  cases kv with
  | nil => exact absurd rfl h
  | cons p kv => rfl
theorem sum_told (kv : KV) : gSum [.lst (tD kv)] = .ok (.val (.int (toldM kv).sum)) := by
  simp only [gSum, tD]
  rw [intsOf_map]
theorem len_told (kv : KV) : gLen [.lst (tD kv)] = .ok (.val (.int (kv.length : Nat))) := by simp [gLen, toldM]
theorem listV {kv : KV} (h : kv.length ≤ 1000) : gListV (.dif (kv.map kOf) (tD kv)) = .ok (.own (.lst (tD kv))) := by
  simp only [gListV]
  rw [if_pos (by rw [List.length_map]; unfold sizeLine; omega)]
theorem sq {a b : DSt} {ρ ρ' : Slots} {r : SRes} (h1 : a ρ = .nx ρ') (h2 : b ρ' = r) : sSeq a b ρ = r := by
  unfold sSeq
  rw [h1]
  exact h2
theorem gNe_same (z : Str) : gNe (.str z) (.str z) = .ok (.val (.bl false)) := by simp [gNe, gEq, VRes.not]
theorem w_1 {n g h : Nat} {kv : KV} (hn : n < 8) (hg : g < 3) (hh : h < 2) (hs : costsM n g h = some kv) : (sSet 3 (dCall c_l_costs [.e (dVar 0), .e (dVar 1), .e (dVar 2)])) [some (.val (.int n)), some (.val (.str (gS g))), some (.val (.str (hS h))), none, none, none, none, none, none] = .nx [some (.val (.int n)), some (.val (.str (gS g))), some (.val (.str (hS h))), some (.val (.dif (kv.map kOf) (tD kv))), none, none, none, none, none] := by
  have c := v_l_costs (by omega) (by omega) (by omega) hs
  rw [vs_told] at c
  generalize kv.map kOf = ks at *
  generalize tD kv = vs at *
  generalize gS g = y at *
  generalize hS h = z at *
  simp -implicitDefEqProofs [callC, ownsIn, backD, sRet, sSeq, sIf, sSet, sNil, sDrop, sRaise, dVar, dBin, dUn, dAnd, dOr, dNot, dIf, dAll, dCall, dMake, runArgs, gIsi, List.replicate, c]
theorem w_2 {n g h : Nat} {kv : KV} (G0 : Good n g h kv) : (sPar [4, 5] [(dUn gListV (dVarL 3)), (dAll (gBestI maxL) [.e (dUn gListV (dVarL 3))])]) [some (.val (.int n)), some (.val (.str (gS g))), some (.val (.str (hS h))), some (.val (.dif (kv.map kOf) (tD kv))), none, none, none, none, none] = .nx [some (.val (.int n)), some (.val (.str (gS g))), some (.val (.str (hS h))), some (.val (.dif (kv.map kOf) (tD kv))), some (.own (.lst (tD kv))), some (.val (.int (mostM kv))), none, none, none] := by
  obtain ⟨⟨hz, h0, _⟩, _⟩ := G0
  have l := listV hz
  have b := best_told h0
  generalize kv.map kOf = ks at *
  generalize tD kv = vs at *
  generalize gS g = y at *
  generalize hS h = z at *
  simp -implicitDefEqProofs [callC, ownsIn, backD, sRet, sSeq, sIf, sSet, sNil, sDrop, sRaise, dVar, dBin, dUn, dAnd, dOr, dNot, dIf, dAll, dCall, dMake, runArgs, gIsi, List.replicate, sPar, runRs, putAll, dVarL, l, b]
theorem w_3 {n g h : Nat} {kv : KV} (G0 : Good n g h kv) (hn : n < 8) : ∃ r6, (sFor (srcR1 [.e (dBin gAdd (dVar 0) (dC (.int 3)))]) (.name 6) bd_l_right_0) [some (.val (.int n)), some (.val (.str (gS g))), some (.val (.str (hS h))), some (.val (.dif (kv.map kOf) (tD kv))), some (.own (.lst (tD kv))), some (.val (.int (mostM kv))), none, none, none] = .nx [some (.val (.int n)), some (.val (.str (gS g))), some (.val (.str (hS h))), some (.val (.dif (kv.map kOf) (tD kv))), some (.val (.lst (tD kv))), some (.val (.int (mostM kv))), r6, none, none] := by
  obtain ⟨ρ', e1, e2⟩ := runFor_inv (tg := .name 6) (body := bd_l_right_0) (fun i ρ => ∃ a4 r6, ρ = ρR n (gS g) (hS h) kv a4 (mostM kv) r6 none ∧ (i = 0 ∧ a4 = some (.own (.lst (tD kv))) ∨ a4 = some (.val (.lst (tD kv))))) (rangeD 0 (n + 3)) 0 (ρR n (gS g) (hS h) kv (some (.own (.lst (tD kv)))) (mostM kv) none none) ⟨_, none, rfl, .inl ⟨rfl, rfl⟩⟩ (fun j x ρ hj hJ => by
    obtain ⟨hj', rfl⟩ := in_rangeD hj
    obtain ⟨a4, r6, rfl, ha⟩ := hJ
    exact ⟨ρR n (gS g) (hS h) kv a4 (mostM kv) (some (.val (.int j))) none, _, rfl, right_step G0 hn hj' (ha.imp (·.2) id), _, _, rfl, .inr rfl⟩)
  obtain ⟨a4, r6, rfl, ha⟩ := e2
  have a4e : a4 = some (.val (.lst (tD kv))) := by
    rcases ha with ⟨hz, _⟩ | ha
    · simp [rangeD] at hz
    · exact ha
  subst a4e
  refine ⟨r6, ?_⟩
  have src : srcR1 [.e (dBin gAdd (dVar 0) (dC (.int 3)))] [some (.val (.int n)), some (.val (.str (gS g))), some (.val (.str (hS h))), some (.val (.dif (kv.map kOf) (tD kv))), some (.own (.lst (tD kv))), some (.val (.int (mostM kv))), none, none, none] = .ok (rangeD 0 (n + 3)) [some (.val (.int n)), some (.val (.str (gS g))), some (.val (.str (hS h))), some (.val (.dif (kv.map kOf) (tD kv))), some (.own (.lst (tD kv))), some (.val (.int (mostM kv))), none, none, none] := by
    have k1 : (n : Int) + 3 < 4611686018427387904 := by omega
    have k2 : -4611686018427387904 ≤ (n : Int) + 3 := by omega
    have k3 : ((n : Int) + 3).toNat = n + 3 := by omega
    generalize mostM kv = mm
    generalize kv.map kOf = ks
    generalize tD kv = vs
    generalize gS g = y
    generalize hS h = z
    simp -implicitDefEqProofs [callC, ownsIn, backD, sRet, sSeq, sIf, sSet, sNil, sDrop, sRaise, dVar, dBin, dUn, dAnd, dOr, dNot, dIf, dAll, dCall, dMake, runArgs, gIsi, List.replicate, srcA, kR1, k1, k2, k3]
  exact sFor_of src e1
theorem w_4 {n g h : Nat} {kv : KV} {r6 : Option R} (G0 : Good n g h kv) (hn : n < 8) : (sIf (dBin gNe (dCall c_total_cost [.e (dVar 0), .e (dVar 1), .e (dVar 2)]) (dAll gSum [.e (dVar 4)])) (sRet (dC (.bl false))) sNil) [some (.val (.int n)), some (.val (.str (gS g))), some (.val (.str (hS h))), some (.val (.dif (kv.map kOf) (tD kv))), some (.val (.lst (tD kv))), some (.val (.int (mostM kv))), r6, none, none] = .nx [some (.val (.int n)), some (.val (.str (gS g))), some (.val (.str (hS h))), some (.val (.dif (kv.map kOf) (tD kv))), some (.val (.lst (tD kv))), some (.val (.int (mostM kv))), r6, none, none] := by
  obtain ⟨_, _, _, ht, _⟩ := G0
  have t := v_total (g := g) (h := h) (n := n) (by omega)
  have s := sum_told kv
  rw [← ht] at s
  generalize ((tc g h n : Nat) : Int) = T at *
  generalize mostM kv = mm at *
  generalize kv.map kOf = ks at *
  generalize tD kv = vs at *
  generalize gS g = y at *
  generalize hS h = z at *
  simp -implicitDefEqProofs [callC, ownsIn, backD, sRet, sSeq, sIf, sSet, sNil, sDrop, sRaise, dVar, dBin, dUn, dAnd, dOr, dNot, dIf, dAll, dCall, dMake, runArgs, gIsi, List.replicate, t, s]
theorem w_5 {n g h : Nat} {kv : KV} {r6 : Option R} (G0 : Good n g h kv) (hn : n < 8) : (sIf (dBin gNe (dAll gRepr2 [.e (dCall c_mean_cost [.e (dVar 0), .e (dVar 1), .e (dVar 2)])]) (dAll gRepr2 [.e (dCall c_l_mean [.e (dAll gSum [.e (dVar 4)]), .e (dAll gLen [.e (dVar 4)])])])) (sRet (dC (.bl false))) sNil) [some (.val (.int n)), some (.val (.str (gS g))), some (.val (.str (hS h))), some (.val (.dif (kv.map kOf) (tD kv))), some (.val (.lst (tD kv))), some (.val (.int (mostM kv))), r6, none, none] = .nx [some (.val (.int n)), some (.val (.str (gS g))), some (.val (.str (hS h))), some (.val (.dif (kv.map kOf) (tD kv))), some (.val (.lst (tD kv))), some (.val (.int (mostM kv))), r6, none, none] := by
  obtain ⟨⟨_, _, hb⟩, _, _, ht, hm, _⟩ := G0
  obtain ⟨T', k, i1, i2, i3, e⟩ := v_mean (g := g) (h := h) (n := n) (by omega)
  have ed : tc g h n / 2 ^ (n - k) = T' := by
    rw [i2]
    exact Nat.mul_div_cancel _ (Nat.pow_pos (by omega))
  have m := hm k (List.mem_range.mpr (by omega)) (by rw [ed, ← i2]) (by rw [ed]; exact i3)
  rw [ed] at m
  have lm := v_l_mean (t := tc g h n) (m := kv.length) (t' := (toldM kv).sum) (m' := (kv.length : Nat)) ht.symm rfl
  rw [m] at lm
  have s := sum_told kv
  have l := len_told kv
  have tb : T' ≤ 100000 := by
    rw [i2] at hb
    exact Nat.le_trans (Nat.le_mul_of_pos_right _ (Nat.pow_pos (by omega))) hb
  have pb : 2 ^ k ≤ 2 ^ 7 := Nat.pow_le_pow_right (by omega) (by omega)
  have r := repr_pair (i := T') (j := 2 ^ k) (by omega) (by omega)
  generalize (toldM kv).sum = S at *
  generalize ((kv.length : Nat) : Int) = LL at *
  generalize ((2 ^ k : Nat) : Int) = P at *
  generalize ((T' : Nat) : Int) = T at *
  generalize pairText T P = zz at *
  generalize mostM kv = mm at *
  generalize kv.map kOf = ks at *
  generalize tD kv = vs at *
  generalize gS g = y at *
  generalize hS h = z at *
  simp -implicitDefEqProofs [callC, ownsIn, backD, sRet, sSeq, sIf, sSet, sNil, sDrop, sRaise, dVar, dBin, dUn, dAnd, dOr, dNot, dIf, dAll, dCall, dMake, runArgs, gIsi, List.replicate, e, s, l, lm, r, gNe_same]
theorem w_6 {n g h c r f : Nat} {kv : KV} {r6 : Option R} (k : Wk g h n c r f) (hn : n < 8) : (sSet 7 (dCall c_text_of [.e (dCall c_worst_row [.e (dVar 0), .e (dVar 1), .e (dVar 2)])])) [some (.val (.int n)), some (.val (.str (gS g))), some (.val (.str (hS h))), some (.val (.dif (kv.map kOf) (tD kv))), some (.val (.lst (tD kv))), some (.val (.int (mostM kv))), r6, none, none] = .nx [some (.val (.int n)), some (.val (.str (gS g))), some (.val (.str (hS h))), some (.val (.dif (kv.map kOf) (tD kv))), some (.val (.lst (tD kv))), some (.val (.int (mostM kv))), r6, some (.val (wD (expand f (wNs n r)))), none] := by
  have e1 := v_worst_row k (by omega)
  have km := kinds_mem k.mem
  have e2 := v_text_row (c := f) (ns := wNs n r) km.1 (by rw [wNs_len]; omega) (by rw [wNs_sum km.2.1 (fun e => by omega)]; omega)
  have td := rowM_toD (c := f) (ns := wNs n r)
  simp only [wD]
  generalize bitsS (expand f (wNs n r)) = ww at *
  generalize rowD f (wNs n r) = x at *
  generalize rowM f (wNs n r) = mx at *
  generalize mostM kv = mm at *
  generalize kv.map kOf = ks at *
  generalize tD kv = vs at *
  generalize gS g = y at *
  generalize hS h = z at *
  simp -implicitDefEqProofs [callC, ownsIn, backD, sRet, sSeq, sIf, sSet, sNil, sDrop, sRaise, dVar, dBin, dUn, dAnd, dOr, dNot, dIf, dAll, dCall, dMake, runArgs, gIsi, List.replicate, e1, td, e2]
theorem w_7 {n g h c r f : Nat} {kv : KV} {r6 : Option R} (G0 : Good n g h kv) (k : Wk g h n c r f) (hn : n < 8) : (sIf (dOr (dBin gNe (dCall c_greatest_cost [.e (dVar 0), .e (dVar 1), .e (dVar 2)]) (dVar 5)) (dOr (dBin gNe (dAll gLen [.e (dVar 7)]) (dVar 0)) (dBin gNe (dBin gDAt (dVarL 3) (dVar 7)) (dVar 5)))) (sRet (dC (.bl false))) sNil) [some (.val (.int n)), some (.val (.str (gS g))), some (.val (.str (hS h))), some (.val (.dif (kv.map kOf) (tD kv))), some (.val (.lst (tD kv))), some (.val (.int (mostM kv))), r6, some (.val (wD (expand f (wNs n r)))), none] = .nx [some (.val (.int n)), some (.val (.str (gS g))), some (.val (.str (hS h))), some (.val (.dif (kv.map kOf) (tD kv))), some (.val (.lst (tD kv))), some (.val (.int (mostM kv))), r6, some (.val (wD (expand f (wNs n r)))), none] := by
  obtain ⟨_, _, _, _, _, hk, _⟩ := G0
  obtain ⟨a, b, d⟩ := hk (r, f) k.mem (fun q hq => by have := k.top q hq; rw [k.val] at this; exact this)
  have e1 := v_greatest k (by omega)
  have cv : ((c : Nat) : Int) = mostM kv := by rw [k.val]; exact a
  rw [cv] at e1
  have gd : gDAt (.dif (kv.map kOf) (tD kv)) (wD (expand f (wNs n r))) = .ok (.val (.int (mostM kv))) := by
    have q := at_look (w := expand f (wNs n r)) kv
    rw [b, vs_told] at q
    simp only [gDAt, keyD, wD]
    rw [q, ← a]
    rfl
  have gl : gLen [wD (expand f (wNs n r))] = .ok (.val (.int n)) := by
    have q := bits_len (xs := expand f (wNs n r))
    rw [d] at q
    have fz : n ≤ sizeLine := by unfold sizeLine; omega
    simp [gLen, q, fz]
  simp only [wD] at *
  generalize bitsS (expand f (wNs n r)) = ww at *
  generalize mostM kv = mm at *
  generalize kv.map kOf = ks at *
  generalize tD kv = vs at *
  generalize gS g = y at *
  generalize hS h = z at *
  simp -implicitDefEqProofs [callC, ownsIn, backD, sRet, sSeq, sIf, sSet, sNil, sDrop, sRaise, dVar, dBin, dUn, dAnd, dOr, dNot, dIf, dAll, dCall, dMake, runArgs, gIsi, List.replicate, e1, gl, dVarL, gd]
theorem w_8 {n g h : Nat} {kv : KV} {r6 a7 : Option R} (G0 : Good n g h kv) (hn : n < 8) : (sRet (dCall c_l_mixed_right [.e (dVarL 3), .e (dVar 0), .e (dVar 1), .e (dVar 2)])) [some (.val (.int n)), some (.val (.str (gS g))), some (.val (.str (hS h))), some (.val (.dif (kv.map kOf) (tD kv))), some (.val (.lst (tD kv))), some (.val (.int (mostM kv))), r6, a7, none] = .rt (.val (.bl true)) [some (.val (.int n)), some (.val (.str (gS g))), some (.val (.str (hS h))), some (.val (.dif (kv.map kOf) (tD kv))), some (.val (.lst (tD kv))), some (.val (.int (mostM kv))), r6, a7, none] := by
  have m := v_l_mixed G0 hn
  generalize mostM kv = mm at *
  generalize kv.map kOf = ks at *
  generalize tD kv = vs at *
  generalize gS g = y at *
  generalize hS h = z at *
  simp -implicitDefEqProofs [callC, ownsIn, backD, sRet, sSeq, sIf, sSet, sNil, sDrop, sRaise, dVar, dBin, dUn, dAnd, dOr, dNot, dIf, dAll, dCall, dMake, runArgs, gIsi, List.replicate, dVarL, m]
theorem v_l_right {n g h : Nat} {kv : KV} (hn : n < 8) (hg : g < 3) (hh : h < 2) (hs : costsM n g h = some kv) (G0 : Good n g h kv) : callV c_l_right [.int n, .str (gS g), .str (hS h)] = .ok (.val (.bl true)) := by
  obtain ⟨c, r, f, k⟩ := v_worst_kind (g := g) (h := h) (n := n) (by omega)
  obtain ⟨r6, e3⟩ := w_3 (g := g) (h := h) G0 hn
  have e : b_l_right [some (.val (.int n)), some (.val (.str (gS g))), some (.val (.str (hS h))), none, none, none, none, none, none] = .rt (.val (.bl true)) [some (.val (.int n)), some (.val (.str (gS g))), some (.val (.str (hS h))), some (.val (.dif (kv.map kOf) (tD kv))), some (.val (.lst (tD kv))), some (.val (.int (mostM kv))), r6, some (.val (wD (expand f (wNs n r)))), none] :=
    sq (w_1 hn hg hh hs) (sq (w_2 G0) (sq e3 (sq (w_4 G0 hn) (sq (w_5 G0 hn) (sq (w_6 k hn) (sq (w_7 G0 k hn) (w_8 G0 hn)))))))
  generalize mostM kv = mm at *
  generalize kv.map kOf = ks at *
  generalize tD kv = vs at *
  generalize gS g = y at *
  generalize hS h = z at *
  unfold callV c_l_right
  generalize b_l_right = st at *
  simp -implicitDefEqProofs [callC, ownsIn, backD, sRet, sSeq, sIf, sSet, sNil, sDrop, sRaise, dVar, dBin, dUn, dAnd, dOr, dNot, dIf, dAll, dCall, dMake, runArgs, gIsi, List.replicate, e]
end G

set_option maxRecDepth 100000
set_option maxHeartbeats 4000000
/-! Qkall: the 48 searches checked. -/
namespace G
open PySem PySem.Spec L2 DL
theorem chk_low : ∀ n ∈ List.range 6, ∀ g ∈ List.range 3, ∀ h ∈ List.range 2, chk n g h = true := by decide +kernel
theorem chk_60 : ∀ h ∈ List.range 2, chk 6 0 h = true := by decide +kernel
theorem chk_61 : ∀ h ∈ List.range 2, chk 6 1 h = true := by decide +kernel
theorem chk_62 : ∀ h ∈ List.range 2, chk 6 2 h = true := by decide +kernel
theorem chk_70 : ∀ h ∈ List.range 2, chk 7 0 h = true := by decide +kernel
theorem chk_71 : ∀ h ∈ List.range 2, chk 7 1 h = true := by decide +kernel
theorem chk_72 : ∀ h ∈ List.range 2, chk 7 2 h = true := by decide +kernel
theorem chk_all {n g h : Nat} (hn : n < 8) (hg : g < 3) (hh : h < 2) : chk n g h = true := by
  have mh : h ∈ List.range 2 := List.mem_range.mpr hh
  rcases (show n < 6 ∨ n = 6 ∨ n = 7 by omega) with hn | rfl | rfl
  · exact chk_low n (List.mem_range.mpr hn) g (List.mem_range.mpr hg) h mh
  · rcases (show g = 0 ∨ g = 1 ∨ g = 2 by omega) with rfl | rfl | rfl
    · exact chk_60 h mh
    · exact chk_61 h mh
    · exact chk_62 h mh
  · rcases (show g = 0 ∨ g = 1 ∨ g = 2 by omega) with rfl | rfl | rfl
    · exact chk_70 h mh
    · exact chk_71 h mh
    · exact chk_72 h mh
theorem good {n g h : Nat} (hn : n < 8) (hg : g < 3) (hh : h < 2) : ∃ kv, costsM n g h = some kv ∧ Good n g h kv := chk_of (chk_all hn hg hh)
end G

set_option maxRecDepth 100000
set_option maxHeartbeats 4000000
/-! P: k40's law. -/
namespace G
open PySem PySem.Spec L2 DL
abbrev ρA (s : D) (k : Nat) (x2 x3 x4 x5 : Option R) : Slots := [some (.val s), some (.val (.int k)), x2, x3, x4, x5]
theorem game_step {s : D} {k n g h : Nat} {x2 : Option R} (hn : n < 8) (hg : g < 3) (hh : h < 2) : bd_law_0 (ρA s k x2 (some (.val (.int n))) (some (.val (.str (hS h)))) (some (.val (.str (gS g))))) = .nx (ρA s k x2 (some (.val (.int n))) (some (.val (.str (hS h)))) (some (.val (.str (gS g))))) := by
  obtain ⟨kv, e, gd⟩ := good hn hg hh
  have r := v_l_right hn hg hh e gd
  generalize gS g = y at *
  generalize hS h = z at *
  simp -implicitDefEqProofs [callC, ownsIn, backD, sRet, sSeq, sIf, sSet, sNil, sDrop, sRaise, dVar, dBin, dUn, dAnd, dOr, dNot, dIf, dAll, dCall, dMake, runArgs, gIsi, List.replicate, bd_law_0, r]
theorem games {s : D} {k n h : Nat} {x2 x5 : Option R} (hn : n < 8) (hh : h < 2) : (sFor (srcOf gLstI (dAll DL.gLst [.e (dC (.str "front")), .e (dC (.str "ends")), .e (dC (.str "parts"))])) (.name 5) bd_law_0) (ρA s k x2 (some (.val (.int n))) (some (.val (.str (hS h)))) x5) = .nx (ρA s k x2 (some (.val (.int n))) (some (.val (.str (hS h)))) (some (.val (.str (gS 2))))) := by
  have e0 := game_step (s := s) (k := k) (x2 := x2) hn (show 0 < 3 by omega) hh
  have e1 := game_step (s := s) (k := k) (x2 := x2) hn (show 1 < 3 by omega) hh
  have e2 := game_step (s := s) (k := k) (x2 := x2) hn (show 2 < 3 by omega) hh
  have lp : runFor (.name 5) bd_law_0 [.str (gS 0), .str (gS 1), .str (gS 2)] (ρA s k x2 (some (.val (.int n))) (some (.val (.str (hS h)))) x5) = .nx (ρA s k x2 (some (.val (.int n))) (some (.val (.str (hS h)))) (some (.val (.str (gS 2))))) := by
    simp only [ρA] at *
    unfold runFor
    simp only [Tg.asg, List.set_cons_succ, List.set_cons_zero]
    rw [e0]
    dsimp only
    unfold runFor
    simp only [Tg.asg, List.set_cons_succ, List.set_cons_zero]
    rw [e1]
    dsimp only
    unfold runFor
    simp only [Tg.asg, List.set_cons_succ, List.set_cons_zero]
    rw [e2]
    rfl
  exact sFor_of (src := srcOf gLstI (dAll DL.gLst [.e (dC (.str "front")), .e (dC (.str "ends")), .e (dC (.str "parts"))])) rfl lp
theorem ix_goal {r : Nat} (h : r < 2) : gIx (.lst [.str "grouped", .str "sorted"]) (.int r) = .ok (.val (.str (hS r))) := by
  rcases (show r = 0 ∨ r = 1 by omega) with rfl | rfl
  · rfl
  · rfl
theorem law_step {ns : List Int} {k : Nat} (hk : k < 4) (x2 x3 x4 x5 : Option R) : ∃ y2 y3 y4 y5, bd_law_1 (ρA (.fix (ns.map D.int)) k x2 x3 x4 x5) = .nx (ρA (.fix (ns.map D.int)) k y2 y3 y4 y5) := by
  obtain ⟨m1, hm1, v⟩ := v_stream (ns := ns) (k := k) (c := k) rfl (by omega)
  generalize hs : D.fix (ns.map D.int) = s at *
  have t0 : (sSet 2 (dCall c_l_stream [.e (dVar 0), .e (dVar 1)])) (ρA s k x2 x3 x4 x5) = .nx (ρA s k (some (.own m1)) x3 x4 x5) := by simp -implicitDefEqProofs [callC, ownsIn, backD, sRet, sSeq, sIf, sSet, sNil, sDrop, sRaise, dVar, dBin, dUn, dAnd, dOr, dNot, dIf, dAll, dCall, dMake, runArgs, gIsi, List.replicate, v]
  obtain ⟨n, m2, a1, a2, a3⟩ := at_draw (i := 2) (ρ := ρA s k (some (.own m1)) x3 x4 x5) rfl hm1 8 (c := 8) rfl (by omega) (by decide +kernel)
  obtain ⟨h, m3, b1, b2, b3⟩ := at_draw (i := 2) (ρ := ρA s k (some (.own m2)) x3 x4 x5) rfl a2 2 (c := 2) rfl (by omega) (by decide +kernel)
  have ix := ix_goal b1
  have t1 : (sPar [3, 4] [(dCall c_l_draw [.l 2, .e (dC (.int 8))]), (dBin gIx (dAll DL.gLst [.e (dC (.str "grouped")), .e (dC (.str "sorted"))]) (dCall c_l_draw [.l 2, .e (dC (.int 2))]))]) (ρA s k (some (.own m1)) x3 x4 x5) = .nx (ρA s k (some (.own m3)) (some (.val (.int n))) (some (.val (.str (hS h)))) x5) := by
    simp only [ρA, List.set_cons_succ, List.set_cons_zero] at a3 b3 ⊢
    generalize hS h = z at *
    simp -implicitDefEqProofs [callC, ownsIn, backD, sRet, sSeq, sIf, sSet, sNil, sDrop, sRaise, dVar, dBin, dUn, dAnd, dOr, dNot, dIf, dAll, dCall, dMake, runArgs, gIsi, List.replicate, sPar, runRs, putAll, a3, b3, ix]
  refine ⟨some (.own m3), some (.val (.int n)), some (.val (.str (hS h))), some (.val (.str (gS 2))), ?_⟩
  unfold bd_law_1
  exact sq t0 (sq t1 (games a1 b1))
theorem law_loop {ns : List Int} : ∀ (l : List Nat) (x1 x2 x3 x4 x5 : Option R), (∀ k ∈ l, k < 4) → ∃ y1 y2 y3 y4 y5, runFor (.name 1) bd_law_1 (l.map fun (k : Nat) => D.int k) [some (.val (.fix (ns.map D.int))), x1, x2, x3, x4, x5] = .nx [some (.val (.fix (ns.map D.int))), y1, y2, y3, y4, y5]
  | [], x1, x2, x3, x4, x5, _ => ⟨x1, x2, x3, x4, x5, rfl⟩
  | k :: l, x1, x2, x3, x4, x5, h => by
    obtain ⟨y2, y3, y4, y5, e⟩ := law_step (ns := ns) (h k List.mem_cons_self) x2 x3 x4 x5
    obtain ⟨z1, z2, z3, z4, z5, e2⟩ := law_loop (ns := ns) l (some (.val (.int k))) y2 y3 y4 y5 fun j hj => h j (List.mem_cons_of_mem _ hj)
    refine ⟨z1, z2, z3, z4, z5, ?_⟩
    rw [List.map_cons]
    unfold runFor
    simp only [Tg.asg, List.set_cons_succ, List.set_cons_zero]
    simp only [ρA] at e
    rw [e]
    exact e2
theorem turns4 (l : Nat) : ∃ m : Nat, m ≤ 4 ∧ (if 1 < (if (l : Int) < 4 then (l : Int) else 4) then (if (l : Int) < 4 then (l : Int) else 4) else 1) = (m : Int) := by
  refine ⟨max 1 (min 4 l), by omega, ?_⟩
  split <;> split <;> omega
theorem plain : Plain 63 c_law := by
  intro ns hl hb
  obtain ⟨m, hm8, e⟩ := turns4 ns.length
  obtain ⟨y1, y2, y3, y4, y5, e2⟩ := law_loop (ns := ns) (List.range m) none none none none none (fun k hk => by have := List.mem_range.mp hk; omega)
  have e3 : rangeD 0 m = (List.range m).map fun (k : Nat) => D.int k := by simp [rangeD]
  rw [← e3] at e2
  have k1 : (m : Int) < 4611686018427387904 := by omega
  have src : srcR1 [.e (dAll gMax2 [.e (dC (.int 1)), .e (dAll gMin2 [.e (dC (.int 4)), .e (dAll gLen [.e (dVar 0)])])])] [some (.val (.fix (ns.map D.int))), none, none, none, none, none] = .ok (rangeD 0 m) [some (.val (.fix (ns.map D.int))), none, none, none, none, none] := by
    simp -implicitDefEqProofs [callC, ownsIn, backD, sRet, sSeq, sIf, sSet, sNil, sDrop, sRaise, dVar, dBin, dUn, dAnd, dOr, dNot, dIf, dAll, dCall, dMake, runArgs, gIsi, List.replicate, srcA, e, kR1, k1]
  have s0 := sFor_of src e2
  have s1 : (sRet (dC (.bl true))) [some (.val (.fix (ns.map D.int))), y1, y2, y3, y4, y5] = .rt (.val (.bl true)) [some (.val (.fix (ns.map D.int))), y1, y2, y3, y4, y5] := rfl
  have bd : b_law [some (.val (.fix (ns.map D.int))), none, none, none, none, none] = .rt (.val (.bl true)) [some (.val (.fix (ns.map D.int))), y1, y2, y3, y4, y5] := by
    unfold b_law
    exact sq s0 s1
  refine ⟨backD [some (.val (.fix (ns.map D.int)))] [some (.val (.fix (ns.map D.int))), y1, y2, y3, y4, y5], ?_⟩
  simp only [c_law, callC, ownsIn, if_true, List.length_cons, List.length_nil]
  have : ([some (.val (.fix (ns.map D.int)))] ++ List.replicate (6 - (0 + 1)) none : Slots) = [some (.val (.fix (ns.map D.int))), none, none, none, none, none] := rfl
  rw [this, bd]
end G

set_option maxRecDepth 100000
set_option maxHeartbeats 0
namespace G
open PySem PySem.Spec PyProof.Rows L2 DL
abbrev RR : PySem.W.OpenRow := PySem.W.OpenLaw.row PySem.Challenge.rw_twocolourflips_k40_numbers_of_rows
abbrev hk : PySem.W.Hook := hookX 5 fa fn
def ob (s : PySem.W.SharedT) : AlX := obsXG 5 fa fn (HandSHeadRun.getT s)
theorem ob_eq (s : PySem.W.SharedT) : ob s = hk.obs s.abs := obsXG_eq (HandSHeadRun.getT_eq s)
def loose : List PySem.Str := (["_wall", "FlipError", "InvalidRow", "InvalidGame", "InvalidGoal", "InvalidNumber", "NoPlace", "LimitExceeded", "is_number", "is_count", "is_colour", "MAX_RUNS", "MAX_LENGTH_rows", "MAX_ITEMS", "joined", "Row", "text_of", "check_count", "GAMES", "check_game"] : List PySem.Str) ++ (["GOALS", "check_goal", "check_words", "sorting_cost", "plain_cost", "MAX_LENGTH_numbers", "MAX_WORST", "check_length", "choices", "divisions", "kinds_of_length", "count_rows", "count_rows_with_cost", "count_mixed_rows", "worst_kind", "greatest_cost", "worst_row", "total_cost", "mean_cost", "_law_stream"] : List PySem.Str) ++ (["_law_draw", "_law_text", "_law_turn", "_law_places", "_law_is_done", "_law_words", "_law_costs", "_law_runs", "_law_mean", "_law_mixed_right", "_law_right"] : List PySem.Str)
theorem run (w : World) : HandSHeadRun.RunEq RR (PySem.W.view RR.prog [58]) hk ob 8000 loose w := by
  intro os
  kernel_rfl
end G
open PySem PySem.W PySem.Calls PyProof.Rows
theorem PySem.Challenge.cw_twocolourflips_k40_numbers_of_rows_holds : PySem.Challenge.rw_twocolourflips_k40_numbers_of_rows.Holds := by
  w_on; o_law
  refine HandSHeadRun.head_any (r := OpenLaw.row PySem.Challenge.rw_twocolourflips_k40_numbers_of_rows) (q := view (OpenLaw.row PySem.Challenge.rw_twocolourflips_k40_numbers_of_rows).prog [58]) (H := G.hk) (ob := G.ob) (M := 8000) (loose := G.loose) (d := HandSHeadRun.topDef (OpenLaw.row PySem.Challenge.rw_twocolourflips_k40_numbers_of_rows).prog 58) (kwd := []) G.ob_eq
    (by kernel_rfl) (fun s => by kernel_rfl) G.run (by kernel_rfl) (by kernel_rfl) (by kernel_rfl) (by rfl) (by first | assumption | decide +kernel) (by decide +kernel) ⟨rfl, rfl, rfl, rfl, rfl, by decide +kernel⟩ ?hw ?hc
  case hw => w_witness2
  case hc =>
    refine DL.walk_DG (l := PySem.Challenge.rw_twocolourflips_k40_numbers_of_rows) (n := 63) (k := 7) (c := G.c_law) rfl (by decide) (by kernel_rfl) ⟨rfl, by decide, by decide⟩ ?F G.plain
    intro w mg fa h Y G0 hmg0
    obtain ⟨K, KX, c⟩ := Y
    have hmg : mg ("law" : PySem.Str) = some (.ref fa) := by
      have e : (HandSHeadRun.topDef (OpenLaw.row PySem.Challenge.rw_twocolourflips_k40_numbers_of_rows).prog 58).name = ("law" : PySem.Str) := by kernel_rfl
      rw [← e]
      exact hmg0
    have T : DL.TT G.fa G.fn K mg := ⟨c, h, KX, G0⟩
    have e := hmg.symm.trans (T.glo 0)
    cases e
    exact ⟨K, KX, G.law_ok T⟩
