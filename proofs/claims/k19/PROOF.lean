import PyProof.Rows.All
import PySem.Challenge.RW_ownhalves_k19_ring_rows
import Wide.All
import OpenK.AllK
import Wide.FinOn
import HandS.ForMost
import HandS.ForExc
import HandS.TryMany
import HandS.ExcInit
import HandS.Gcd
import HandS.Wide
import HandS.WideBits
import HandS.IsInst
import HandS.Lambda
import HandS.Deep
import HandS.Flow
import HandS.TupAny
import HandS.TupMul
import HandS.TupLe
import HandS.Iter
import HandS.Zip
import KE.GoesEnum
import HandS.Walk
import HandS.RaiseMore
import HandS.Words
import HandS.Ends
import HandS.EndBits
import HandS.Small
import HandS.WordsExc
import HandS.HeadWalk
import HandS.ExcField
import HandS.ExcIs
import HandS.EndTab
set_option Elab.async false
set_option linter.all false
set_option maxRecDepth 100000
set_option maxHeartbeats 2000000
namespace FL
open PySem PySem.Spec L2
open PyProof.Rows hiding St
/-- a lambda's code -/
structure LamC where
  params : Arguments
  body : Expr
  scope : Scope
  qual : Str
/-- plain data, without a heap; clo: a lambda, cl its cells -/
inductive D where
  | non | bl (b : Bool) | int (i : Int) | str (x : Str) | ty (n : String)
  | tup (xs : List D) | lst (xs : List D) | dct (kvs : List (Key × D))
  | obj (c : Str) (fs : List (Str × D))
  | fn (x : Str)
  | scr (ns : List Int)
  | clo (cl : List (Str × Addr)) (c : LamC)
  | ldc (kvs : List (Key × D))
  deriving Inhabited
/-- a lambda's function object at f, its code object told by c' -/
def cloO (f : Addr) (cl : List (Str × Addr)) (c : LamC) (c' : Addr) : HO := .ext fun h => ∃ pm ctv, h.get? f = some (PySem.W.kla_obj "<lambda>" c.qual c.params c.body c.scope cl pm c' ctv)
mutual
/-- how a datum stands in the kept part G of the heap -/
def RV (K : PySem.W.Frag) (mg : Str → Option Value) (G : Hp) : D → V → Prop
  | .non, v => v = .non
  | .bl b, v => v = .bl b
  | .int i, v => v = .int i
  | .str x, v => v = .str x
  | .ty n, v => v = .ty n
  | .tup ds, v => ∃ a xs, v = .ref a ∧ SqT K G a xs ∧ RVs K mg G ds xs
  | .lst ds, v => ∃ a xs, v = .ref a ∧ G a = some (.lst xs) ∧ RVs K mg G ds xs
  | .dct kvs, v => ∃ a ks, v = .ref a ∧ G a = some (.dK ks) ∧ RKs K mg G kvs ks
  | .obj c fs, v => ∃ a C dx vs, v = .ref a ∧ mg c = some (.ref C) ∧ G a = some (.ins C dx vs) ∧ G dx = some (.own a) ∧ RFs K mg G fs vs
  | .fn x, v => ∃ a, v = .ref a ∧ mg x = some (.ref a)
  | .scr ns, v => ∃ a, v = .ref a ∧ SqL K G a (ns.map V.int)
  | .clo cl c, v => ∃ f c', v = .ref f ∧ G f = some (cloO f cl c c') ∧ G c' = some (LamX.CodeO c' c.qual)
  | .ldc kvs, v => ∃ a o ks, v = .ref a ∧ G a = some (.frz o (.dK ks)) ∧ RKs K mg G kvs ks
def RVs (K : PySem.W.Frag) (mg : Str → Option Value) (G : Hp) : List D → List V → Prop
  | [], xs => xs = []
  | d :: ds, xs => ∃ y ys, xs = y :: ys ∧ RV K mg G d y ∧ RVs K mg G ds ys
def RKs (K : PySem.W.Frag) (mg : Str → Option Value) (G : Hp) : List (Key × D) → List (Key × V) → Prop
  | [], xs => xs = []
  | (k, d) :: ds, xs => ∃ y ys, xs = (k, y) :: ys ∧ RV K mg G d y ∧ RKs K mg G ds ys
def RFs (K : PySem.W.Frag) (mg : Str → Option Value) (G : Hp) : List (Str × D) → List (Str × V) → Prop
  | [], xs => xs = []
  | (k, d) :: ds, xs => ∃ y ys, xs = (k, y) :: ys ∧ RV K mg G d y ∧ RFs K mg G ds ys
end
/-- the kept part stands in the heap -/
def SubH (G H : Hp) : Prop := ∀ b o, G b = some o → H b = some o
section
variable {K : PySem.W.Frag} {mg : Str → Option Value} {G G' H H' : Hp}
theorem sqT_mono {a : Addr} {xs : List V} (h : SubH G G') (q : SqT K G a xs) : SqT K G' a xs := by
  rcases q with (q | ⟨o, q⟩) | q
  · exact .inl (.inl (h _ _ q))
  · exact .inl (.inr ⟨o, h _ _ q⟩)
  · exact .inr q
theorem sqL_mono {a : Addr} {xs : List V} (h : SubH G G') (q : SqL K G a xs) : SqL K G' a xs := by
  rcases q with (q | ⟨o, q⟩) | q
  · exact .inl (.inl (h _ _ q))
  · exact .inl (.inr ⟨o, h _ _ q⟩)
  · exact .inr q
mutual
theorem RV.mono (h : SubH G G') : ∀ (d : D) (v : V), RV K mg G d v → RV K mg G' d v
  | .non, _, r => r
  | .bl _, _, r => r
  | .int _, _, r => r
  | .str _, _, r => r
  | .ty _, _, r => r
  | .tup ds, _, ⟨a, xs, e, q, r⟩ => ⟨a, xs, e, sqT_mono h q, RVs.mono h ds xs r⟩
  | .lst ds, _, ⟨a, xs, e, q, r⟩ => ⟨a, xs, e, h _ _ q, RVs.mono h ds xs r⟩
  | .dct kvs, _, ⟨a, ks, e, q, r⟩ => ⟨a, ks, e, h _ _ q, RKs.mono h kvs ks r⟩
  | .obj _ fs, _, ⟨a, C, dx, vs, e, m, q, q2, r⟩ => ⟨a, C, dx, vs, e, m, h _ _ q, h _ _ q2, RFs.mono h fs vs r⟩
  | .fn _, _, r => r
  | .scr _, _, ⟨a, e, q⟩ => ⟨a, e, sqL_mono h q⟩
  | .clo _ _, _, ⟨f, c', e, q, q2⟩ => ⟨f, c', e, h _ _ q, h _ _ q2⟩
  | .ldc kvs, _, ⟨a, o, ks, e, q, r⟩ => ⟨a, o, ks, e, h _ _ q, RKs.mono h kvs ks r⟩
theorem RVs.mono (h : SubH G G') : ∀ (ds : List D) (xs : List V), RVs K mg G ds xs → RVs K mg G' ds xs
  | [], _, r => r
  | d :: ds, _, ⟨y, ys, e, r, t⟩ => ⟨y, ys, e, RV.mono h d y r, RVs.mono h ds ys t⟩
theorem RKs.mono (h : SubH G G') : ∀ (ds : List (Key × D)) (xs : List (Key × V)), RKs K mg G ds xs → RKs K mg G' ds xs
  | [], _, r => r
  | (_, d) :: ds, _, ⟨y, ys, e, r, t⟩ => ⟨y, ys, e, RV.mono h d y r, RKs.mono h ds ys t⟩
theorem RFs.mono (h : SubH G G') : ∀ (ds : List (Str × D)) (xs : List (Str × V)), RFs K mg G ds xs → RFs K mg G' ds xs
  | [], _, r => r
  | (_, d) :: ds, _, ⟨y, ys, e, r, t⟩ => ⟨y, ys, e, RV.mono h d y r, RFs.mono h ds ys t⟩
end
theorem RVs.length : ∀ {ds : List D} {xs : List V}, RVs K mg G ds xs → ds.length = xs.length
  | [], _, r => by rw [show _ = [] from r]; rfl
  | _ :: ds, _, ⟨_, ys, e, _, t⟩ => by rw [e, List.length_cons, List.length_cons, RVs.length t]
theorem RKs.length : ∀ {ds : List (Key × D)} {xs : List (Key × V)}, RKs K mg G ds xs → ds.length = xs.length
  | [], _, r => by rw [show _ = [] from r]; rfl
  | (_, _) :: ds, _, ⟨_, ys, e, _, t⟩ => by rw [e, List.length_cons, List.length_cons, RKs.length t]
theorem RVs.get : ∀ {ds : List D} {xs : List V} {i : Nat} {d : D}, RVs K mg G ds xs → ds[i]? = some d → ∃ v, xs[i]? = some v ∧ RV K mg G d v
  | [], _, _, _, _, e => by simp at e
  | d :: ds, _, 0, _, ⟨y, ys, e, r, t⟩, h => by
    have h2 := Option.some.inj (show some d = some _ from h)
    rw [← h2]
    exact ⟨y, by rw [e]; rfl, r⟩
  | d :: ds, _, i + 1, z, ⟨y, ys, e, r, t⟩, h => by
    obtain ⟨v, h1, h2⟩ := RVs.get (i := i) (d := z) t (by simpa using h)
    exact ⟨v, by rw [e]; simpa using h1, h2⟩
theorem RVs.append : ∀ {ds es : List D} {xs ys : List V}, RVs K mg G ds xs → RVs K mg G es ys → RVs K mg G (ds ++ es) (xs ++ ys)
  | [], _, _, _, r, s => by rw [show _ = [] from r]; exact s
  | d :: ds, _, _, _, ⟨y, zs, e, r, t⟩, s => by rw [e]; exact ⟨y, _, rfl, r, RVs.append t s⟩
theorem RVs.take : ∀ {ds : List D} {xs : List V} (n : Nat), RVs K mg G ds xs → RVs K mg G (ds.take n) (xs.take n)
  | _, _, 0, _ => rfl
  | [], _, _ + 1, r => by rw [show _ = [] from r]; rfl
  | d :: ds, _, n + 1, ⟨y, ys, e, r, t⟩ => by rw [e]; exact ⟨y, _, rfl, r, RVs.take n t⟩
theorem RVs.drop : ∀ {ds : List D} {xs : List V} (n : Nat), RVs K mg G ds xs → RVs K mg G (ds.drop n) (xs.drop n)
  | _, _, 0, r => r
  | [], _, _ + 1, r => by rw [show _ = [] from r]; rfl
  | d :: ds, _, n + 1, ⟨y, ys, e, r, t⟩ => by rw [e]; exact RVs.drop n t
theorem RVs.set {d : D} {v : V} (q : RV K mg G d v) : ∀ {ds : List D} {xs : List V} (n : Nat), RVs K mg G ds xs → RVs K mg G (ds.set n d) (xs.set n v)
  | [], _, _, r => by rw [show _ = [] from r]; rfl
  | e :: ds, _, 0, ⟨y, ys, h, r, t⟩ => by rw [h]; exact ⟨v, _, rfl, q, t⟩
  | e :: ds, _, n + 1, ⟨y, ys, h, r, t⟩ => by rw [h]; exact ⟨y, _, rfl, r, RVs.set q n t⟩
theorem RVs.one {d : D} {v : V} (r : RV K mg G d v) : RVs K mg G [d] [v] := ⟨v, [], rfl, r, rfl⟩
theorem RVs.reverse : ∀ {ds : List D} {xs : List V}, RVs K mg G ds xs → RVs K mg G ds.reverse xs.reverse
  | [], _, r => by rw [show _ = [] from r]; rfl
  | d :: ds, _, ⟨y, ys, e, r, t⟩ => by
    rw [e, List.reverse_cons, List.reverse_cons]
    exact RVs.append (RVs.reverse t) (RVs.one r)
theorem RVs.of_ints : ∀ (ns : List Int), RVs K mg G (ns.map D.int) (ns.map V.int)
  | [] => rfl
  | n :: ns => ⟨_, _, rfl, rfl, RVs.of_ints ns⟩
end
/-- a slot's content, a value that was reckoned: data, or an object that only this frame holds -/
inductive W where
  | d (x : D) | own (x : D)
  deriving Inhabited
def W.data : W → D
  | .d x => x
  | .own x => x
abbrev Rho := List (Option W)
/-- what a part's exceptions wish for, and a floor below the kept part -/
structure Flr where
  fl : Hp
  T : List (Addr × Str)
structure WG where
  w : WX
  fl : Flr
/-- no table of code objects -/
def NT (o : HO) : Prop := ∀ ps, o ≠ .tbl ps
/-- a list or a dict -/
def LD : HO → Prop
  | .lst _ => True
  | .dK _ => True
  | _ => False
/-- what others hold stays; but tables and what is known of lambdas -/
def KP : HO → Prop
  | .tbl _ => False
  | .ext _ => False
  | _ => True
theorem LD.kp {o : HO} (h : LD o) : KP o := by
  cases o <;> first
    | exact True.intro
    | exact h
theorem KP.nt {o : HO} (h : KP o) : NT o := fun ps e => by
  subst e
  exact h
theorem LD.nt {o : HO} (h : LD o) : NT o := fun ps e => by
  subst e
  exact h
theorem tabs_updK {T : List (Addr × Str)} {H : Hp} {p : Addr} {o : HO} (h : ∀ u, H p = some u → KP u) (t : LamX.Tabs T H) : LamX.Tabs T (upd H p o) := fun q hq => by
  obtain ⟨ps, h1, h2, h3⟩ := t q hq
  have ne : ∀ {b : Addr} {u : HO}, H b = some u → ¬ KP u → b ≠ p := fun {b u} e n z => by
    subst z
    exact n (h u e)
  refine ⟨ps, by rw [upd_ne (ne h1 id)]; exact h1, h2, fun pos cv hc => ?_⟩
  obtain ⟨c, e1, e2⟩ := h3 pos cv hc
  exact ⟨c, e1, by rw [upd_ne (ne e2 id)]; exact e2⟩
theorem tabs_upd {T : List (Addr × Str)} {H : Hp} {p : Addr} {o : HO} (h : ∀ u, H p = some u → LD u) (t : LamX.Tabs T H) : LamX.Tabs T (upd H p o) := tabs_updK (fun u e => (h u e).kp) t
/-- an object that only this frame holds, at a -/
def RO (K : PySem.W.Frag) (mg : Str → Option Value) (H G : Hp) (a : Addr) : D → Prop
  | .lst ds => ∃ xs, H a = some (.lst xs) ∧ RVs K mg G ds xs
  | .dct kvs => ∃ ks, H a = some (.dK ks) ∧ RKs K mg G kvs ks
  | _ => False
def RW (K : PySem.W.Frag) (mg : Str → Option Value) (H G : Hp) (v : V) : W → Prop
  | .d x => RV K mg G x v
  | .own x => ∃ a, v = .ref a ∧ G a = none ∧ RO K mg H G a x
structure Rel (K : PySem.W.Frag) (mg : Str → Option Value) (fl : Flr) (σ : St) (ρ : Rho) (H G : Hp) : Prop where
  len : ρ.length = σ.length
  sub : SubH G H
  slot : ∀ (i : Nat) (w : W), ρ[i]? = some (some w) → ∃ v, σ[i]? = some (some v) ∧ RW K mg H G v w
  dis : ∀ (i j : Nat) (x y : D) (v : V), ρ[i]? = some (some (.own x)) → ρ[j]? = some (some (.own y)) → σ[i]? = some (some v) → σ[j]? = some (some v) → i = j
  floor : SubH fl.fl G
  tabs : LamX.Tabs fl.T H
  ntb : ∀ b o, G b = some o → NT o
/-- the slots' own objects -/
def OwnS (σ : St) (ρ : Rho) (b : Addr) : Prop := ∃ (i : Nat) (x : D), ρ[i]? = some (some (.own x)) ∧ σ[i]? = some (some (.ref b))
/-- what stays: the kept part, and what others hold; io: the slots that are never stored anew -/
structure Fr (io : List Nat) (σ : St) (ρ : Rho) (H G : Hp) (σ' : St) (ρ' : Rho) (H' G' : Hp) : Prop where
  grow : SubH G G'
  keep : ∀ b o, H b = some o → KP o → G b = none → ¬ OwnS σ ρ b → H' b = some o ∧ G' b = none ∧ ¬ OwnS σ' ρ' b
  fix : ∀ j ∈ io, σ'[j]? = σ[j]?
  len : σ'.length = σ.length
/-- a result: its own object is new, or a slot's that was let go -/
def RR (K : PySem.W.Frag) (mg : Str → Option Value) (σ : St) (ρ : Rho) (H : Hp) (σ' : St) (ρ' : Rho) (H' G' : Hp) (v : V) (w : W) : Prop :=
  RW K mg H' G' v w ∧ ∀ x a, w = .own x → v = .ref a → ¬ OwnS σ' ρ' a ∧ ∀ o, H a = some o → KP o → OwnS σ ρ a
/-- a result of a part -/
inductive Res (α : Type) where
  | ok (a : α) (ρ : Rho)
  | exc (c : Str) (fs : List (Str × D)) (ρ : Rho)
  | bad
abbrev M (α : Type) := Rho → Res α
def Res.bind {α β : Type} (r : Res α) (f : α → M β) : Res β :=
  match r with
  | .ok a ρ => f a ρ
  | .exc c fs ρ => .exc c fs ρ
  | .bad => .bad
/-- .. as data: an own object is kept from now on -/
def Res.dat {β : Type} (r : Res W) (f : D → M β) : Res β :=
  match r with
  | .ok w ρ => f w.data ρ
  | .exc c fs ρ => .exc c fs ρ
  | .bad => .bad
/-- an exception in the air: its class by name, its fields -/
def RX (K : PySem.W.Frag) (mg : Str → Option Value) (H G : Hp) (cls : Value) (od : Option Addr) (c : Str) (fs : List (Str × D)) : Prop :=
  ∃ C, cls = .ref C ∧ mg c = some (.ref C) ∧
    (fs = [] ∨ ∃ d vs, od = some d ∧ H d = some (.xd vs) ∧ ∀ f x, fs.lookup f = some x → ∃ v, vs.lookup f = some v ∧ RV K mg G x v)
/-- what is to be shown of a part's result, from the state (σ ρ H G) -/
def GoE (K : PySem.W.Frag) (mg : Str → Option Value) (Wx : WG) (σ : St) (ρ : Rho) (H G : Hp) (r : Res W) (Q : VK) : Prop :=
  match r with
  | .ok w ρ' => ∀ v H' G', Rel K mg Wx.fl σ ρ' H' G' → Fr [] σ ρ H G σ ρ' H' G' → RR K mg σ ρ H σ ρ' H' G' v w → Q v H'
  | .exc c fs ρ' => ∀ cls od H' G', Rel K mg Wx.fl σ ρ' H' G' → Fr [] σ ρ H G σ ρ' H' G' → RX K mg H' G' cls od c fs → Wx.w cls od σ H'
  | .bad => False
def GoB (K : PySem.W.Frag) (mg : Str → Option Value) (Wx : WG) (σ : St) (ρ : Rho) (H G : Hp) (r : Res Bool) (Q : Bool → Hp → Prop) : Prop :=
  match r with
  | .ok b ρ' => ∀ H' G', Rel K mg Wx.fl σ ρ' H' G' → Fr [] σ ρ H G σ ρ' H' G' → Q b H'
  | .exc c fs ρ' => ∀ cls od H' G', Rel K mg Wx.fl σ ρ' H' G' → Fr [] σ ρ H G σ ρ' H' G' → RX K mg H' G' cls od c fs → Wx.w cls od σ H'
  | .bad => False
/-- an expression that is reckoned as m tells -/
def tM (K : PySem.W.Frag) (mg : Str → Option Value) (Wx : WG) (m : M W) : TE := fun σ H Q => ∃ ρ G, Rel K mg Wx.fl σ ρ H G ∧ GoE K mg Wx σ ρ H G (m ρ) Q
def tB2 (K : PySem.W.Frag) (mg : Str → Option Value) (Wx : WG) (m : M Bool) : TT := fun σ H Q => ∃ ρ G, Rel K mg Wx.fl σ ρ H G ∧ GoB K mg Wx σ ρ H G (m ρ) Q
section
variable {K : PySem.W.Frag} {mg : Str → Option Value} {Wx : WG} {fl : Flr} {io : List Nat} {σ σ1 σ2 : St} {ρ ρ1 ρ2 : Rho} {H H1 H2 G G1 G2 : Hp} {Q : VK}
theorem SubH.refl : SubH G G := fun _ _ h => h
theorem SubH.trans (a : SubH G G1) (b : SubH G1 G2) : SubH G G2 := fun c o h => b c o (a c o h)
theorem Fr.refl : Fr io σ ρ H G σ ρ H G := ⟨SubH.refl, fun _ _ h _ g n => ⟨h, g, n⟩, fun _ _ => rfl, rfl⟩
theorem Fr.trans (a : Fr io σ ρ H G σ1 ρ1 H1 G1) (b : Fr io σ1 ρ1 H1 G1 σ2 ρ2 H2 G2) : Fr io σ ρ H G σ2 ρ2 H2 G2 :=
  ⟨a.grow.trans b.grow, fun c o h t g n => let ⟨h1, g1, n1⟩ := a.keep c o h t g n; b.keep c o h1 t g1 n1, fun j hj => (b.fix j hj).trans (a.fix j hj), b.len.trans a.len⟩
theorem Fr.io_nil (a : Fr [] σ ρ H G σ ρ1 H1 G1) : Fr io σ ρ H G σ ρ1 H1 G1 := ⟨a.grow, a.keep, fun _ _ => rfl, rfl⟩
theorem RW.mono {v : V} {w : W} (r : RW K mg H G v w) (g : SubH G G1) (k : ∀ x a, w = .own x → v = .ref a → H1 a = H a ∧ G1 a = none) : RW K mg H1 G1 v w := by
  cases w with
  | d x => exact RV.mono g x v r
  | own x =>
    obtain ⟨a, e, _, ro⟩ := r
    obtain ⟨k1, k2⟩ := k x a rfl e
    refine ⟨a, e, k2, ?_⟩
    cases x with
    | lst ds => obtain ⟨xs, h1, h2⟩ := ro; exact ⟨xs, k1.trans h1, RVs.mono g ds xs h2⟩
    | dct kvs => obtain ⟨xs, h1, h2⟩ := ro; exact ⟨xs, k1.trans h1, RKs.mono g kvs xs h2⟩
    | _ => exact ro.elim
theorem RO.there {a : Addr} {x : D} (r : RO K mg H G a x) : ∃ o, H a = some o ∧ Mut (some o) ∧ LD o := by
  cases x with
  | lst ds => obtain ⟨xs, h1, _⟩ := r; exact ⟨_, h1, True.intro, True.intro⟩
  | dct kvs => obtain ⟨xs, h1, _⟩ := r; exact ⟨_, h1, True.intro, True.intro⟩
  | _ => exact r.elim
/-- a result told from a later state is one from an earlier one -/
theorem RR.back {v : V} {w : W} (f : Fr io σ ρ H G σ1 ρ1 H1 G1) (g : SubH G1 G2) (r : RR K mg σ1 ρ1 H1 σ2 ρ2 H2 G2 v w) : RR K mg σ ρ H σ2 ρ2 H2 G2 v w := by
  refine ⟨r.1, fun x a e1 e2 => ⟨(r.2 x a e1 e2).1, fun o h nt => ?_⟩⟩
  subst e1
  obtain ⟨a', ev, gn, ro⟩ := r.1
  rw [e2] at ev
  cases ev
  by_cases hown : OwnS σ ρ a
  · exact hown
  · exfalso
    cases hg : G a with
    | some o' =>
      have := g _ _ (f.grow _ _ hg)
      rw [gn] at this
      cases this
    | none =>
      obtain ⟨h1, g1, n1⟩ := f.keep a o h nt hg hown
      exact n1 ((r.2 x a rfl e2).2 o h1 nt)
theorem GoE.shift {r : Res W} (f : Fr [] σ ρ H G σ ρ1 H1 G1) (h : GoE K mg Wx σ ρ H G r Q) : GoE K mg Wx σ ρ1 H1 G1 r Q := by
  cases r with
  | ok w ρ' => exact fun v H' G' R F r => h v H' G' R (f.trans F) (RR.back f F.grow r)
  | exc c fs ρ' => exact fun cls od H' G' R F r => h cls od H' G' R (f.trans F) r
  | bad => exact h
theorem GoB.shift {r : Res Bool} {Q : Bool → Hp → Prop} (f : Fr [] σ ρ H G σ ρ1 H1 G1) (h : GoB K mg Wx σ ρ H G r Q) : GoB K mg Wx σ ρ1 H1 G1 r Q := by
  cases r with
  | ok w ρ' => exact fun H' G' R F => h H' G' R (f.trans F)
  | exc c fs ρ' => exact fun cls od H' G' R F r => h cls od H' G' R (f.trans F) r
  | bad => exact h
/-- a result is kept from now on: as data -/
theorem keep_res {v : V} {w : W} (R : Rel K mg fl σ ρ1 H1 G1) (f : Fr [] σ ρ H G σ ρ1 H1 G1) (r : RR K mg σ ρ H σ ρ1 H1 G1 v w) :
    ∃ G2, Rel K mg fl σ ρ1 H1 G2 ∧ Fr [] σ ρ H G σ ρ1 H1 G2 ∧ RV K mg G2 w.data v := by
  cases w with
  | d x => exact ⟨G1, R, f, r.1⟩
  | own x =>
    obtain ⟨a, ev, gn, ro⟩ := r.1
    obtain ⟨n1, n2⟩ := r.2 x a rfl ev
    obtain ⟨o, ho, _, hld⟩ := ro.there
    have gr : SubH G1 (upd G1 a o) := fun b u hb => by
      rw [upd_ne (fun e => by rw [e, gn] at hb; cases hb)]
      exact hb
    have rv : RV K mg (upd G1 a o) x v := by
      cases x with
      | lst ds =>
        obtain ⟨xs, h1, h2⟩ := ro
        rw [ho] at h1
        cases h1
        exact ⟨a, xs, ev, upd_same, RVs.mono gr ds xs h2⟩
      | dct kvs =>
        obtain ⟨xs, h1, h2⟩ := ro
        rw [ho] at h1
        cases h1
        exact ⟨a, xs, ev, upd_same, RKs.mono gr kvs xs h2⟩
      | _ => exact ro.elim
    refine ⟨upd G1 a o, ⟨R.len, fun b u hb => ?_, fun i w hw => ?_, R.dis, R.floor.trans gr, R.tabs, fun b u hb => ?_⟩, ⟨f.grow.trans gr, fun b u hb nt hg hn => ?_, f.fix, f.len⟩, rv⟩
    · by_cases e : b = a
      · rw [e, upd_same] at hb
        rw [e, ho, hb]
      · rw [upd_ne e] at hb
        exact R.sub b u hb
    · obtain ⟨v', s', q⟩ := R.slot i w hw
      refine ⟨v', s', q.mono gr fun y b e1 e2 => ⟨rfl, ?_⟩⟩
      subst e1
      have hne : b ≠ a := fun e => n1 ⟨i, y, hw, by rw [s', e2, e]⟩
      rw [upd_ne hne]
      obtain ⟨a2, e3, g3, _⟩ := q
      rw [e2] at e3
      cases e3
      exact g3
    · by_cases e : b = a
      · rw [e, upd_same] at hb
        cases hb
        exact hld.nt
      · rw [upd_ne e] at hb
        exact R.ntb b u hb
    · obtain ⟨h1, g1, m1⟩ := f.keep b u hb nt hg hn
      have hne : b ≠ a := fun e => hn (by rw [e] at hb ⊢; exact n2 u hb nt)
      exact ⟨h1, by rw [upd_ne hne]; exact g1, m1⟩
/-- one part, then the rest -/
theorem tM_bind {m : M W} {f : W → M W} (R : Rel K mg Wx.fl σ ρ H G) (h : GoE K mg Wx σ ρ H G ((m ρ).bind f) Q) :
    tM K mg Wx m σ H fun v H1 => ∃ w ρ1 G1, Rel K mg Wx.fl σ ρ1 H1 G1 ∧ Fr [] σ ρ H G σ ρ1 H1 G1 ∧ RR K mg σ ρ H σ ρ1 H1 G1 v w ∧ m ρ = .ok w ρ1 ∧ GoE K mg Wx σ ρ H G (f w ρ1) Q := by
  refine ⟨ρ, G, R, ?_⟩
  cases e : m ρ with
  | ok w ρ1 => rw [e] at h; exact fun v H' G' R' F' r => ⟨w, ρ1, G', R', F', r, rfl, h⟩
  | exc c fs ρ1 => rw [e] at h; exact h
  | bad => rw [e] at h; exact h.elim
theorem tM_dat {m : M W} {f : D → M W} (R : Rel K mg Wx.fl σ ρ H G) (h : GoE K mg Wx σ ρ H G ((m ρ).dat f) Q) :
    tM K mg Wx m σ H fun v H1 => ∃ x ρ1 G1, Rel K mg Wx.fl σ ρ1 H1 G1 ∧ RV K mg G1 x v ∧ Fr [] σ ρ H G σ ρ1 H1 G1 ∧ GoE K mg Wx σ ρ1 H1 G1 (f x ρ1) Q := by
  refine ⟨ρ, G, R, ?_⟩
  cases e : m ρ with
  | ok w ρ1 =>
    rw [e] at h
    intro v H' G' R' F' r
    obtain ⟨G2, R2, F2, rv⟩ := keep_res R' F' r
    exact ⟨w.data, ρ1, G2, R2, rv, F2, GoE.shift F2 h⟩
  | exc c fs ρ1 => rw [e] at h; exact h
  | bad => rw [e] at h; exact h.elim
theorem tM_datB {m : M W} {f : D → M Bool} {Q : Bool → Hp → Prop} (R : Rel K mg Wx.fl σ ρ H G) (h : GoB K mg Wx σ ρ H G ((m ρ).dat f) Q) :
    tM K mg Wx m σ H fun v H1 => ∃ x ρ1 G1, Rel K mg Wx.fl σ ρ1 H1 G1 ∧ RV K mg G1 x v ∧ Fr [] σ ρ H G σ ρ1 H1 G1 ∧ GoB K mg Wx σ ρ1 H1 G1 (f x ρ1) Q := by
  refine ⟨ρ, G, R, ?_⟩
  cases e : m ρ with
  | ok w ρ1 =>
    rw [e] at h
    intro v H' G' R' F' r
    obtain ⟨G2, R2, F2, rv⟩ := keep_res R' F' r
    exact ⟨w.data, ρ1, G2, R2, rv, F2, GoB.shift F2 h⟩
  | exc c fs ρ1 => rw [e] at h; exact h
  | bad => rw [e] at h; exact h.elim
/-- new objects alone were laid -/
structure Al (K : PySem.W.Frag) (mg : Str → Option Value) (H G H' G' : Hp) (v : V) (w : W) : Prop where
  same : SubH H H'
  grow : SubH G G'
  new : ∀ b o, G' b = some o → G b = some o ∨ H b = none
  sub : SubH G' H'
  ntb : (∀ b o, G b = some o → NT o) → ∀ b o, G' b = some o → NT o
  val : match w with
    | .d x => RV K mg G' x v
    | .own x => ∃ a, v = .ref a ∧ H a = none ∧ G' a = none ∧ RO K mg H' G' a x
theorem Al.here {v : V} {x : D} (s : SubH G H) (r : RV K mg G x v) : Al K mg H G H G v (.d x) := ⟨SubH.refl, SubH.refl, fun _ _ h => .inl h, s, id, r⟩
theorem Rel.al {v : V} {w : W} (R : Rel K mg fl σ ρ H G) (a : Al K mg H G H1 G1 v w) : Rel K mg fl σ ρ H1 G1 ∧ Fr [] σ ρ H G σ ρ H1 G1 ∧ RR K mg σ ρ H σ ρ H1 G1 v w := by
  have own : ∀ (i : Nat) (x : D) (b : Addr), ρ[i]? = some (some (.own x)) → σ[i]? = some (some (.ref b)) → H1 b = H b ∧ G1 b = none ∧ ∃ o, H b = some o := fun i x b e1 e2 => by
    obtain ⟨v', s', b', e3, g3, ro⟩ := R.slot i _ e1
    rw [e2] at s'
    cases s'
    cases e3
    obtain ⟨o, ho, _⟩ := ro.there
    refine ⟨(a.same _ _ ho).trans ho.symm, ?_, o, ho⟩
    cases hg : G1 b with
    | none => rfl
    | some u =>
      rcases a.new _ _ hg with z | z
      · rw [g3] at z; cases z
      · rw [ho] at z; cases z
  have R1 : Rel K mg fl σ ρ H1 G1 := ⟨R.len, a.sub, fun i w' hw => by
    obtain ⟨v', s', q⟩ := R.slot i w' hw
    refine ⟨v', s', q.mono a.grow fun y b e1 e2 => ?_⟩
    subst e1
    rw [e2] at s'
    obtain ⟨h1, h2, _⟩ := own i y b hw s'
    exact ⟨h1, h2⟩, R.dis, R.floor.trans a.grow, R.tabs.ext a.same, a.ntb R.ntb⟩
  refine ⟨R1, ⟨a.grow, fun b o hb _ hg hn => ⟨a.same _ _ hb, ?_, hn⟩, fun _ h => absurd h (by simp), rfl⟩, ?_, fun x p e1 e2 => ?_⟩
  · cases hg1 : G1 b with
    | none => rfl
    | some u =>
      rcases a.new _ _ hg1 with z | z
      · rw [hg] at z; cases z
      · rw [hb] at z; cases z
  · cases w with
    | d x => exact a.val
    | own x => obtain ⟨p, e, _, g, ro⟩ := a.val; exact ⟨p, e, g, ro⟩
  · subst e1
    obtain ⟨p', e, hn, g, ro⟩ := a.val
    rw [e2] at e
    cases e
    refine ⟨fun ⟨i, y, h1, h2⟩ => ?_, fun o ho _ => by rw [hn] at ho; cases ho⟩
    obtain ⟨_, _, o, ho⟩ := own i y p h1 h2
    rw [hn] at ho
    cases ho
theorem GoE.al {v : V} {w : W} (R : Rel K mg Wx.fl σ ρ H G) (a : Al K mg H G H1 G1 v w) (h : GoE K mg Wx σ ρ H G (.ok w ρ) Q) : Q v H1 := by
  obtain ⟨R1, F1, r⟩ := R.al a
  exact h v H1 G1 R1 F1 r
/-- a new list -/
theorem Al.lst {p : Addr} {ds : List D} {xs : List V} (s : SubH G H) (hp : H p = none) (r : RVs K mg G ds xs) : Al K mg H G (upd H p (.lst xs)) G (.ref p) (.own (.lst ds)) := by
  have up : SubH H (upd H p (.lst xs)) := fun b o h => by rw [upd_ne (ne_of_none h hp)]; exact h
  have gp : G p = none := by
    cases e : G p with
    | none => rfl
    | some o => have := s _ _ e; rw [hp] at this; cases this
  exact ⟨up, SubH.refl, fun _ _ h => .inl h, s.trans up, id, p, rfl, hp, gp, xs, upd_same, r⟩
theorem Al.dct {p : Addr} {ds : List (Key × D)} {xs : List (Key × V)} (s : SubH G H) (hp : H p = none) (r : RKs K mg G ds xs) : Al K mg H G (upd H p (.dK xs)) G (.ref p) (.own (.dct ds)) := by
  have up : SubH H (upd H p (.dK xs)) := fun b o h => by rw [upd_ne (ne_of_none h hp)]; exact h
  have gp : G p = none := by
    cases e : G p with
    | none => rfl
    | some o => have := s _ _ e; rw [hp] at this; cases this
  exact ⟨up, SubH.refl, fun _ _ h => .inl h, s.trans up, id, p, rfl, hp, gp, xs, upd_same, r⟩
/-- a new tuple -/
theorem Al.tup {p : Addr} {ds : List D} {xs : List V} (s : SubH G H) (hp : H p = none) (r : RVs K mg G ds xs) : Al K mg H G (upd H p (.tup xs)) (upd G p (.tup xs)) (.ref p) (.d (.tup ds)) := by
  have gp : G p = none := by
    cases e : G p with
    | none => rfl
    | some o => have := s _ _ e; rw [hp] at this; cases this
  have upH : SubH H (upd H p (.tup xs)) := fun b o h => by rw [upd_ne (ne_of_none h hp)]; exact h
  have upG : SubH G (upd G p (.tup xs)) := fun b o h => by rw [upd_ne (ne_of_none h gp)]; exact h
  refine ⟨upH, upG, fun b o h => ?_, fun b o h => ?_, fun nt b o h => ?_, p, xs, rfl, SqT.of upd_same, RVs.mono upG ds xs r⟩
  · by_cases e : b = p
    · rw [e]; exact .inr hp
    · rw [upd_ne e] at h; exact .inl h
  · by_cases e : b = p
    · rw [e] at h ⊢
      rw [upd_same] at h ⊢
      exact h
    · rw [upd_ne e] at h ⊢
      exact s _ _ h
  · by_cases e : b = p
    · rw [e, upd_same] at h
      cases h
      exact fun ps z => nomatch z
    · rw [upd_ne e] at h
      exact nt b o h
end
section
variable {X : Cx} {e : Expr} {t t' : TE} {u u' : TT}
theorem peImp (h : PE X e t) (w : ∀ σ H Q, t' σ H Q → t σ H Q) : PE X e t' := ⟨fun pins s σ H Q I q => h.run pins s σ H Q I (w σ H Q q)⟩
theorem ptImp (h : PT X e u) (w : ∀ σ H Q, u' σ H Q → u σ H Q) : PT X e u' := ⟨fun pins s σ H Q I q => h.run pins s σ H Q I (w σ H Q q)⟩
theorem paImp {es : List Expr} {a a' : TA} (h : PA X es a) (w : ∀ σ H Q, a' σ H Q → a σ H Q) : PA X es a' := ⟨fun pos pins s σ H Q I q => h.run pos pins s σ H Q I (w σ H Q q)⟩
theorem psImp {st : Stmt} {a a' : TS} (h : PS X st a) (w : ∀ D σ H, a' D σ H → a D σ H) : PS X st a' := ⟨fun pins s σ H D I q => h.run pins s σ H D I (w D σ H q)⟩
theorem pssImp {st : List Stmt} {a a' : TS} (h : PSs X st a) (w : ∀ D σ H, a' D σ H → a D σ H) : PSs X st a' := ⟨fun pins s σ H D I q => h.run pins s σ H D I (w D σ H q)⟩
end
/-- the expression e is reckoned as m tells -/
abbrev PM (X : Cx) (Wx : WG) (e : Expr) (m : M W) : Prop := PE X e (tM X.K X.mg Wx m)
abbrev PMB (X : Cx) (Wx : WG) (e : Expr) (m : M Bool) : Prop := PT X e (tB2 X.K X.mg Wx m)
end FL
set_option Elab.async false
set_option linter.all false
set_option maxRecDepth 100000
set_option maxHeartbeats 2000000
namespace FL
open PySem PySem.Spec L2
open PyProof.Rows hiding St
/-- what can be read now: an own object too -/
def RH (K : PySem.W.Frag) (mg : Str → Option Value) (H G : Hp) : D → V → Prop
  | .lst ds, v => ∃ a xs, v = .ref a ∧ H a = some (.lst xs) ∧ RVs K mg G ds xs
  | .dct kvs, v => ∃ a ks, v = .ref a ∧ H a = some (.dK ks) ∧ RKs K mg G kvs ks
  | d, v => RV K mg G d v
/-- an operand: a datum, or a slot that is read when the operation is done -/
inductive A where
  | val (x : D) | ref (i : Nat)
def A.res (ρ : Rho) : A → Option D
  | .val x => some x
  | .ref i => match ρ[i]? with
    | some (some w) => some w.data
    | _ => none
def RAt (K : PySem.W.Frag) (mg : Str → Option Value) (σ : St) (G : Hp) (v : V) : A → Prop
  | .val x => RV K mg G x v
  | .ref i => σ[i]? = some (some v)
def GoA (K : PySem.W.Frag) (mg : Str → Option Value) (Wx : WG) (σ : St) (ρ : Rho) (H G : Hp) (r : Res A) (Q : VK) : Prop :=
  match r with
  | .ok a ρ' => ∀ v H' G', Rel K mg Wx.fl σ ρ' H' G' → Fr [] σ ρ H G σ ρ' H' G' → RAt K mg σ G' v a → Q v H'
  | .exc c fs ρ' => ∀ cls od H' G', Rel K mg Wx.fl σ ρ' H' G' → Fr [] σ ρ H G σ ρ' H' G' → RX K mg H' G' cls od c fs → Wx.w cls od σ H'
  | .bad => False
def GoL (K : PySem.W.Frag) (mg : Str → Option Value) (Wx : WG) (σ : St) (ρ : Rho) (H G : Hp) (r : Res (List D)) (Q : List V → Hp → Prop) : Prop :=
  match r with
  | .ok ds ρ' => ∀ vs H' G', Rel K mg Wx.fl σ ρ' H' G' → Fr [] σ ρ H G σ ρ' H' G' → RVs K mg G' ds vs → Q vs H'
  | .exc c fs ρ' => ∀ cls od H' G', Rel K mg Wx.fl σ ρ' H' G' → Fr [] σ ρ H G σ ρ' H' G' → RX K mg H' G' cls od c fs → Wx.w cls od σ H'
  | .bad => False
/-- operands of a pure call -/
def RAs (K : PySem.W.Frag) (mg : Str → Option Value) (σ : St) (G : Hp) : List V → List A → Prop
  | [], [] => True
  | v :: vs, a :: as => RAt K mg σ G v a ∧ RAs K mg σ G vs as
  | _, _ => False
def GoAs (K : PySem.W.Frag) (mg : Str → Option Value) (Wx : WG) (σ : St) (ρ : Rho) (H G : Hp) (r : Res (List A)) (Q : List V → Hp → Prop) : Prop :=
  match r with
  | .ok as ρ' => ∀ vs H' G', Rel K mg Wx.fl σ ρ' H' G' → Fr [] σ ρ H G σ ρ' H' G' → RAs K mg σ G' vs as → Q vs H'
  | .exc c fs ρ' => ∀ cls od H' G', Rel K mg Wx.fl σ ρ' H' G' → Fr [] σ ρ H G σ ρ' H' G' → RX K mg H' G' cls od c fs → Wx.w cls od σ H'
  | .bad => False
def tA (K : PySem.W.Frag) (mg : Str → Option Value) (Wx : WG) (m : M A) : TE := fun σ H Q => ∃ ρ G, Rel K mg Wx.fl σ ρ H G ∧ GoA K mg Wx σ ρ H G (m ρ) Q
def tL (K : PySem.W.Frag) (mg : Str → Option Value) (Wx : WG) (m : M (List D)) : TA := fun σ H Q => ∃ ρ G, Rel K mg Wx.fl σ ρ H G ∧ GoL K mg Wx σ ρ H G (m ρ) Q
def tAs (K : PySem.W.Frag) (mg : Str → Option Value) (Wx : WG) (m : M (List A)) : TA := fun σ H Q => ∃ ρ G, Rel K mg Wx.fl σ ρ H G ∧ GoAs K mg Wx σ ρ H G (m ρ) Q
abbrev PMA (X : Cx) (Wx : WG) (e : Expr) (m : M A) : Prop := PE X e (tA X.K X.mg Wx m)
abbrev PML (X : Cx) (Wx : WG) (es : List Expr) (m : M (List D)) : Prop := PA X es (tL X.K X.mg Wx m)
abbrev PMAs (X : Cx) (Wx : WG) (es : List Expr) (m : M (List A)) : Prop := PA X es (tAs X.K X.mg Wx m)
section
variable {K : PySem.W.Frag} {mg : Str → Option Value} {Wx : WG} {fl : Flr} {io : List Nat} {σ σ1 σ2 : St} {ρ ρ1 ρ2 : Rho} {H H1 H2 G G1 G2 : Hp} {Q : VK}
theorem SubH.nothing : SubH (fun _ => none) G := fun b o z => by
  have z' : (none : Option HO) = some o := z
  cases z'
theorem RH.of {d : D} {v : V} (s : SubH G H) (r : RV K mg G d v) : RH K mg H G d v := by
  cases d with
  | lst ds => obtain ⟨a, xs, e, q, t⟩ := r; exact ⟨a, xs, e, s _ _ q, t⟩
  | dct ds => obtain ⟨a, xs, e, q, t⟩ := r; exact ⟨a, xs, e, s _ _ q, t⟩
  | _ => exact r
theorem Rel.read {v : V} {i : Nat} {w : W} (R : Rel K mg fl σ ρ H G) (e : ρ[i]? = some (some w)) (s : σ[i]? = some (some v)) : RH K mg H G w.data v := by
  obtain ⟨v', s', q⟩ := R.slot i w e
  rw [s] at s'
  cases s'
  cases w with
  | d x => exact RH.of R.sub q
  | own x =>
    obtain ⟨a, ev, _, ro⟩ := q
    cases x with
    | lst ds => obtain ⟨xs, h1, h2⟩ := ro; exact ⟨a, xs, ev, h1, h2⟩
    | dct ds => obtain ⟨xs, h1, h2⟩ := ro; exact ⟨a, xs, ev, h1, h2⟩
    | _ => exact ro.elim
theorem RAt.read {v : V} {a : A} {x : D} (R : Rel K mg fl σ ρ H G) (r : RAt K mg σ G v a) (e : a.res ρ = some x) : RH K mg H G x v := by
  cases a with
  | val y =>
    have e' : y = x := Option.some.inj e
    subst e'
    exact RH.of R.sub r
  | ref i =>
    have e2 : (match ρ[i]? with
      | some (some w) => some w.data
      | _ => none) = some x := e
    split at e2
    · rename_i w hw
      have e' := Option.some.inj e2
      subst e'
      exact R.read hw r
    · cases e2
theorem RAt.mono {v : V} {a : A} (g : SubH G G1) (r : RAt K mg σ G v a) : RAt K mg σ G1 v a := by
  cases a with
  | val y => exact RV.mono g y v r
  | ref i => exact r
theorem RAs.mono (g : SubH G G1) : ∀ {vs : List V} {as : List A}, RAs K mg σ G vs as → RAs K mg σ G1 vs as
  | [], [], _ => True.intro
  | _ :: _, _ :: _, ⟨h, t⟩ => ⟨h.mono g, RAs.mono g t⟩
  | [], _ :: _, h => h.elim
  | _ :: _, [], h => h.elim
theorem GoA.shift {r : Res A} (f : Fr [] σ ρ H G σ ρ1 H1 G1) (h : GoA K mg Wx σ ρ H G r Q) : GoA K mg Wx σ ρ1 H1 G1 r Q := by
  cases r with
  | ok w ρ' => exact fun v H' G' R F r => h v H' G' R (f.trans F) r
  | exc c fs ρ' => exact fun cls od H' G' R F r => h cls od H' G' R (f.trans F) r
  | bad => exact h
theorem GoL.shift {r : Res (List D)} {Q : List V → Hp → Prop} (f : Fr [] σ ρ H G σ ρ1 H1 G1) (h : GoL K mg Wx σ ρ H G r Q) : GoL K mg Wx σ ρ1 H1 G1 r Q := by
  cases r with
  | ok w ρ' => exact fun v H' G' R F r => h v H' G' R (f.trans F) r
  | exc c fs ρ' => exact fun cls od H' G' R F r => h cls od H' G' R (f.trans F) r
  | bad => exact h
theorem GoAs.shift {r : Res (List A)} {Q : List V → Hp → Prop} (f : Fr [] σ ρ H G σ ρ1 H1 G1) (h : GoAs K mg Wx σ ρ H G r Q) : GoAs K mg Wx σ ρ1 H1 G1 r Q := by
  cases r with
  | ok w ρ' => exact fun v H' G' R F r => h v H' G' R (f.trans F) r
  | exc c fs ρ' => exact fun cls od H' G' R F r => h cls od H' G' R (f.trans F) r
  | bad => exact h
theorem tM_mono {m : M W} {Q' : VK} (h : tM K mg Wx m σ H Q) (k : ∀ v H1, Q v H1 → Q' v H1) : tM K mg Wx m σ H Q' := by
  obtain ⟨ρ, G, R, g⟩ := h
  refine ⟨ρ, G, R, ?_⟩
  cases e : m ρ with
  | ok w ρ1 => rw [e] at g; exact fun v H' G' R' F' r => k _ _ (g v H' G' R' F' r)
  | exc c fs ρ1 => rw [e] at g; exact g
  | bad => rw [e] at g; exact g
theorem tB2_mono {m : M Bool} {Q Q' : Bool → Hp → Prop} (h : tB2 K mg Wx m σ H Q) (k : ∀ v H1, Q v H1 → Q' v H1) : tB2 K mg Wx m σ H Q' := by
  obtain ⟨ρ, G, R, g⟩ := h
  refine ⟨ρ, G, R, ?_⟩
  cases e : m ρ with
  | ok w ρ1 => rw [e] at g; exact fun H' G' R' F' => k _ _ (g H' G' R' F')
  | exc c fs ρ1 => rw [e] at g; exact g
  | bad => rw [e] at g; exact g
theorem tA_mono {m : M A} {Q' : VK} (h : tA K mg Wx m σ H Q) (k : ∀ v H1, Q v H1 → Q' v H1) : tA K mg Wx m σ H Q' := by
  obtain ⟨ρ, G, R, g⟩ := h
  refine ⟨ρ, G, R, ?_⟩
  cases e : m ρ with
  | ok w ρ1 => rw [e] at g; exact fun v H' G' R' F' r => k _ _ (g v H' G' R' F' r)
  | exc c fs ρ1 => rw [e] at g; exact g
  | bad => rw [e] at g; exact g
theorem tL_mono {m : M (List D)} {Q Q' : List V → Hp → Prop} (h : tL K mg Wx m σ H Q) (k : ∀ v H1, Q v H1 → Q' v H1) : tL K mg Wx m σ H Q' := by
  obtain ⟨ρ, G, R, g⟩ := h
  refine ⟨ρ, G, R, ?_⟩
  cases e : m ρ with
  | ok w ρ1 => rw [e] at g; exact fun v H' G' R' F' r => k _ _ (g v H' G' R' F' r)
  | exc c fs ρ1 => rw [e] at g; exact g
  | bad => rw [e] at g; exact g
theorem tAs_mono {m : M (List A)} {Q Q' : List V → Hp → Prop} (h : tAs K mg Wx m σ H Q) (k : ∀ v H1, Q v H1 → Q' v H1) : tAs K mg Wx m σ H Q' := by
  obtain ⟨ρ, G, R, g⟩ := h
  refine ⟨ρ, G, R, ?_⟩
  cases e : m ρ with
  | ok w ρ1 => rw [e] at g; exact fun v H' G' R' F' r => k _ _ (g v H' G' R' F' r)
  | exc c fs ρ1 => rw [e] at g; exact g
  | bad => rw [e] at g; exact g
theorem tA_bind {m : M A} {f : A → M W} (R : Rel K mg Wx.fl σ ρ H G) (h : GoE K mg Wx σ ρ H G ((m ρ).bind f) Q) :
    tA K mg Wx m σ H fun v H1 => ∃ a ρ1 G1, Rel K mg Wx.fl σ ρ1 H1 G1 ∧ RAt K mg σ G1 v a ∧ Fr [] σ ρ H G σ ρ1 H1 G1 ∧ GoE K mg Wx σ ρ1 H1 G1 (f a ρ1) Q := by
  refine ⟨ρ, G, R, ?_⟩
  cases e : m ρ with
  | ok w ρ1 => rw [e] at h; exact fun v H' G' R' F' r => ⟨w, ρ1, G', R', r, F', GoE.shift F' h⟩
  | exc c fs ρ1 => rw [e] at h; exact h
  | bad => rw [e] at h; exact h.elim
theorem tA_bindB {m : M A} {f : A → M Bool} {Q : Bool → Hp → Prop} (R : Rel K mg Wx.fl σ ρ H G) (h : GoB K mg Wx σ ρ H G ((m ρ).bind f) Q) :
    tA K mg Wx m σ H fun v H1 => ∃ a ρ1 G1, Rel K mg Wx.fl σ ρ1 H1 G1 ∧ RAt K mg σ G1 v a ∧ Fr [] σ ρ H G σ ρ1 H1 G1 ∧ GoB K mg Wx σ ρ1 H1 G1 (f a ρ1) Q := by
  refine ⟨ρ, G, R, ?_⟩
  cases e : m ρ with
  | ok w ρ1 => rw [e] at h; exact fun v H' G' R' F' r => ⟨w, ρ1, G', R', r, F', GoB.shift F' h⟩
  | exc c fs ρ1 => rw [e] at h; exact h
  | bad => rw [e] at h; exact h.elim
theorem tA_bindAs {m : M A} {f : A → M (List A)} {Q : List V → Hp → Prop} (R : Rel K mg Wx.fl σ ρ H G) (h : GoAs K mg Wx σ ρ H G ((m ρ).bind f) Q) :
    tA K mg Wx m σ H fun v H1 => ∃ a ρ1 G1, Rel K mg Wx.fl σ ρ1 H1 G1 ∧ RAt K mg σ G1 v a ∧ Fr [] σ ρ H G σ ρ1 H1 G1 ∧ GoAs K mg Wx σ ρ1 H1 G1 (f a ρ1) Q := by
  refine ⟨ρ, G, R, ?_⟩
  cases e : m ρ with
  | ok w ρ1 => rw [e] at h; exact fun v H' G' R' F' r => ⟨w, ρ1, G', R', r, F', GoAs.shift F' h⟩
  | exc c fs ρ1 => rw [e] at h; exact h
  | bad => rw [e] at h; exact h.elim
theorem tAs_bind {m : M (List A)} {f : List A → M W} (R : Rel K mg Wx.fl σ ρ H G) (h : GoE K mg Wx σ ρ H G ((m ρ).bind f) Q) :
    tAs K mg Wx m σ H fun v H1 => ∃ a ρ1 G1, Rel K mg Wx.fl σ ρ1 H1 G1 ∧ RAs K mg σ G1 v a ∧ Fr [] σ ρ H G σ ρ1 H1 G1 ∧ GoE K mg Wx σ ρ1 H1 G1 (f a ρ1) Q := by
  refine ⟨ρ, G, R, ?_⟩
  cases e : m ρ with
  | ok w ρ1 => rw [e] at h; exact fun v H' G' R' F' r => ⟨w, ρ1, G', R', r, F', GoE.shift F' h⟩
  | exc c fs ρ1 => rw [e] at h; exact h
  | bad => rw [e] at h; exact h.elim
theorem tAs_bindAs {m : M (List A)} {f : List A → M (List A)} {Q : List V → Hp → Prop} (R : Rel K mg Wx.fl σ ρ H G) (h : GoAs K mg Wx σ ρ H G ((m ρ).bind f) Q) :
    tAs K mg Wx m σ H fun v H1 => ∃ a ρ1 G1, Rel K mg Wx.fl σ ρ1 H1 G1 ∧ RAs K mg σ G1 v a ∧ Fr [] σ ρ H G σ ρ1 H1 G1 ∧ GoAs K mg Wx σ ρ1 H1 G1 (f a ρ1) Q := by
  refine ⟨ρ, G, R, ?_⟩
  cases e : m ρ with
  | ok w ρ1 => rw [e] at h; exact fun v H' G' R' F' r => ⟨w, ρ1, G', R', r, F', GoAs.shift F' h⟩
  | exc c fs ρ1 => rw [e] at h; exact h
  | bad => rw [e] at h; exact h.elim
theorem tL_bind {m : M (List D)} {f : List D → M W} (R : Rel K mg Wx.fl σ ρ H G) (h : GoE K mg Wx σ ρ H G ((m ρ).bind f) Q) :
    tL K mg Wx m σ H fun v H1 => ∃ a ρ1 G1, Rel K mg Wx.fl σ ρ1 H1 G1 ∧ RVs K mg G1 a v ∧ Fr [] σ ρ H G σ ρ1 H1 G1 ∧ GoE K mg Wx σ ρ1 H1 G1 (f a ρ1) Q := by
  refine ⟨ρ, G, R, ?_⟩
  cases e : m ρ with
  | ok w ρ1 => rw [e] at h; exact fun v H' G' R' F' r => ⟨w, ρ1, G', R', r, F', GoE.shift F' h⟩
  | exc c fs ρ1 => rw [e] at h; exact h
  | bad => rw [e] at h; exact h.elim
theorem tL_bindL {m : M (List D)} {f : List D → M (List D)} {Q : List V → Hp → Prop} (R : Rel K mg Wx.fl σ ρ H G) (h : GoL K mg Wx σ ρ H G ((m ρ).bind f) Q) :
    tL K mg Wx m σ H fun v H1 => ∃ a ρ1 G1, Rel K mg Wx.fl σ ρ1 H1 G1 ∧ RVs K mg G1 a v ∧ Fr [] σ ρ H G σ ρ1 H1 G1 ∧ GoL K mg Wx σ ρ1 H1 G1 (f a ρ1) Q := by
  refine ⟨ρ, G, R, ?_⟩
  cases e : m ρ with
  | ok w ρ1 => rw [e] at h; exact fun v H' G' R' F' r => ⟨w, ρ1, G', R', r, F', GoL.shift F' h⟩
  | exc c fs ρ1 => rw [e] at h; exact h
  | bad => rw [e] at h; exact h.elim
theorem tM_datL {m : M W} {f : D → M (List D)} {Q : List V → Hp → Prop} (R : Rel K mg Wx.fl σ ρ H G) (h : GoL K mg Wx σ ρ H G ((m ρ).dat f) Q) :
    tM K mg Wx m σ H fun v H1 => ∃ x ρ1 G1, Rel K mg Wx.fl σ ρ1 H1 G1 ∧ RV K mg G1 x v ∧ Fr [] σ ρ H G σ ρ1 H1 G1 ∧ GoL K mg Wx σ ρ1 H1 G1 (f x ρ1) Q := by
  refine ⟨ρ, G, R, ?_⟩
  cases e : m ρ with
  | ok w ρ1 =>
    rw [e] at h
    intro v H' G' R' F' r
    obtain ⟨G2, R2, F2, rv⟩ := keep_res R' F' r
    exact ⟨w.data, ρ1, G2, R2, rv, F2, GoL.shift F2 h⟩
  | exc c fs ρ1 => rw [e] at h; exact h
  | bad => rw [e] at h; exact h.elim
theorem tM_datA {m : M W} {f : D → M A} (R : Rel K mg Wx.fl σ ρ H G) (h : GoA K mg Wx σ ρ H G ((m ρ).dat f) Q) :
    tM K mg Wx m σ H fun v H1 => ∃ x ρ1 G1, Rel K mg Wx.fl σ ρ1 H1 G1 ∧ RV K mg G1 x v ∧ Fr [] σ ρ H G σ ρ1 H1 G1 ∧ GoA K mg Wx σ ρ1 H1 G1 (f x ρ1) Q := by
  refine ⟨ρ, G, R, ?_⟩
  cases e : m ρ with
  | ok w ρ1 =>
    rw [e] at h
    intro v H' G' R' F' r
    obtain ⟨G2, R2, F2, rv⟩ := keep_res R' F' r
    exact ⟨w.data, ρ1, G2, R2, rv, F2, GoA.shift F2 h⟩
  | exc c fs ρ1 => rw [e] at h; exact h
  | bad => rw [e] at h; exact h.elim
/-- a slot's own object is kept from now on -/
theorem Rel.freeze {i : Nat} {x : D} (R : Rel K mg fl σ ρ H G) (e : ρ[i]? = some (some (.own x))) :
    ∃ v G1, σ[i]? = some (some v) ∧ Rel K mg fl σ (ρ.set i (some (.d x))) H G1 ∧ Fr [] σ ρ H G σ (ρ.set i (some (.d x))) H G1 ∧ RV K mg G1 x v := by
  obtain ⟨v, s, a, ev, gn, ro⟩ := R.slot i _ e
  obtain ⟨o, ho, _, hld⟩ := ro.there
  have hi : i < ρ.length := (List.getElem?_eq_some_iff.mp e).1
  have gr : SubH G (upd G a o) := fun b u hb => by
    rw [upd_ne (fun z => by rw [z, gn] at hb; cases hb)]
    exact hb
  have rv : RV K mg (upd G a o) x v := by
    cases x with
    | lst ds =>
      obtain ⟨xs, h1, h2⟩ := ro
      rw [ho] at h1
      cases h1
      exact ⟨a, xs, ev, upd_same, RVs.mono gr ds xs h2⟩
    | dct kvs =>
      obtain ⟨xs, h1, h2⟩ := ro
      rw [ho] at h1
      cases h1
      exact ⟨a, xs, ev, upd_same, RKs.mono gr kvs xs h2⟩
    | _ => exact ro.elim
  have at_ : ∀ (j : Nat) (w : W), (ρ.set i (some (.d x)))[j]? = some (some w) → (j = i ∧ w = .d x) ∨ (j ≠ i ∧ ρ[j]? = some (some w)) := fun j w h => by
    by_cases hj : j = i
    · subst hj
      rw [List.getElem?_set_self hi] at h
      cases h
      exact .inl ⟨rfl, rfl⟩
    · rw [List.getElem?_set_ne (Ne.symm hj)] at h
      exact .inr ⟨hj, h⟩
  refine ⟨v, upd G a o, s, ⟨by rw [List.length_set]; exact R.len, fun b u hb => ?_, fun j w hw => ?_, fun j k y z v' h1 h2 h3 h4 => ?_, R.floor.trans gr, R.tabs, fun b u hb => ?_⟩, ⟨gr, fun b u hb _ hg hn => ⟨hb, ?_, fun ⟨j, y, h1, h2⟩ => ?_⟩, fun _ h => absurd h (by simp), rfl⟩, rv⟩
  · by_cases z : b = a
    · rw [z, upd_same] at hb
      rw [z, ho, hb]
    · rw [upd_ne z] at hb
      exact R.sub b u hb
  · rcases at_ j w hw with ⟨rfl, rfl⟩ | ⟨hj, hw'⟩
    · exact ⟨v, s, rv⟩
    · obtain ⟨v', s', q⟩ := R.slot j w hw'
      refine ⟨v', s', q.mono gr fun y b e1 e2 => ⟨rfl, ?_⟩⟩
      subst e1
      have hne : b ≠ a := fun z => hj (R.dis j i y x v hw' e (by rw [s', e2, z, ev]) s)
      rw [upd_ne hne]
      obtain ⟨a2, e3, g3, _⟩ := q
      rw [e2] at e3
      cases e3
      exact g3
  · rcases at_ j _ h1 with ⟨_, z⟩ | ⟨_, h1'⟩
    · cases z
    · rcases at_ k _ h2 with ⟨_, z⟩ | ⟨_, h2'⟩
      · cases z
      · exact R.dis j k y z v' h1' h2' h3 h4
  · by_cases z : b = a
    · rw [z, upd_same] at hb
      cases hb
      exact hld.nt
    · rw [upd_ne z] at hb
      exact R.ntb b u hb
  · have hne : b ≠ a := fun z => hn ⟨i, x, e, by rw [s, ev, z]⟩
    rw [upd_ne hne]
    exact hg
  · rcases at_ j _ h1 with ⟨_, z⟩ | ⟨_, h1'⟩
    · cases z
    · exact hn ⟨j, y, h1', h2⟩
end
def slotM (i : Nat) : M W := fun ρ =>
  match ρ[i]? with
  | some (some (.d x)) => .ok (.d x) ρ
  | some (some (.own x)) => .ok (.d x) (ρ.set i (some (.d x)))
  | _ => .bad
def slotA (i : Nat) : M A := fun ρ =>
  match ρ[i]? with
  | some (some (.d x)) => .ok (.val x) ρ
  | some (some (.own _)) => .ok (.ref i) ρ
  | _ => .bad
def constM (x : D) : M W := fun ρ => .ok (.d x) ρ
def datA (m : M W) : M A := fun ρ => (m ρ).dat fun x ρ => .ok (.val x) ρ
section
variable {X : Cx} {Wx : WG} {fl : Flr} {e a b c : Expr} {pos : Pos} {m ma mb mc : M W}
theorem pm_slot {i : Nat} {x : Str} (hN : X.N[i]? = some x) (hv : Vis X.env.scope x) (hd : (x == ("__debug__" : Str)) = false) (hcd : (x == ("__classdict__" : Str)) = false) : PM X Wx (.Name x pos) (slotM i) := by
  refine peImp (pe_var hN hv hd hcd) fun σ H Q h => ?_
  obtain ⟨ρ, G, R, h⟩ := h
  unfold slotM at h
  split at h
  · rename_i y hy
    obtain ⟨v, s, q⟩ := R.slot i _ hy
    exact ⟨v, s, h v H G R Fr.refl ⟨q, fun _ _ z => nomatch z⟩⟩
  · rename_i y hy
    obtain ⟨v, G1, s, R1, F1, rv⟩ := R.freeze hy
    exact ⟨v, s, h v H G1 R1 F1 ⟨rv, fun _ _ z => nomatch z⟩⟩
  · exact h.elim
theorem pma_slot {i : Nat} {x : Str} (hN : X.N[i]? = some x) (hv : Vis X.env.scope x) (hd : (x == ("__debug__" : Str)) = false) (hcd : (x == ("__classdict__" : Str)) = false) : PMA X Wx (.Name x pos) (slotA i) := by
  refine peImp (pe_var hN hv hd hcd) fun σ H Q h => ?_
  obtain ⟨ρ, G, R, h⟩ := h
  unfold slotA at h
  split at h
  · rename_i y hy
    obtain ⟨v, s, q⟩ := R.slot i _ hy
    exact ⟨v, s, h v H G R Fr.refl q⟩
  · rename_i y hy
    obtain ⟨v, s, q⟩ := R.slot i _ hy
    exact ⟨v, s, h v H G R Fr.refl s⟩
  · exact h.elim
theorem pma_of (h : PM X Wx e m) : PMA X Wx e (datA m) :=
  peImp h fun σ H Q h => by
    obtain ⟨ρ, G, R, h⟩ := h
    exact tM_mono (tM_datA R h) fun v H1 ⟨x, ρ1, G1, R1, rv, F1, k⟩ => k v H1 G1 R1 Fr.refl rv
theorem pm_const {x : D} {v : V} (h : PE X e (tC v)) (r : RV X.K X.mg (fun _ => none) x v) : PM X Wx e (constM x) :=
  peImp h fun σ H Q h => by
    obtain ⟨ρ, G, R, h⟩ := h
    exact h v H G R Fr.refl ⟨RV.mono SubH.nothing x v r, fun _ _ z => nomatch z⟩
def nilL : M (List D) := fun ρ => .ok [] ρ
def consL (m : M W) (r : M (List D)) : M (List D) := fun ρ => (m ρ).dat fun x ρ => (r ρ).bind fun xs ρ => .ok (x :: xs) ρ
def nilA : M (List A) := fun ρ => .ok [] ρ
def consA (m : M A) (r : M (List A)) : M (List A) := fun ρ => (m ρ).bind fun x ρ => (r ρ).bind fun xs ρ => .ok (x :: xs) ρ
theorem pml_nil : PML X Wx [] nilL := paImp pa_nil fun σ H Q h => by
  obtain ⟨ρ, G, R, h⟩ := h
  exact h [] H G R Fr.refl rfl
theorem pml_cons {es : List Expr} {r : M (List D)} (h : PM X Wx e m) (t : PML X Wx es r) (hs : starEach (e :: es) X.env = (false, eval e X.env) :: starEach es X.env) : PML X Wx (e :: es) (consL m r) := by
  refine paImp (pa_cons h t hs) fun σ H Q h => ?_
  obtain ⟨ρ, G, R, h⟩ := h
  refine tM_mono (tM_datL R h) fun v H1 ⟨x, ρ1, G1, R1, rv, F1, k⟩ => ?_
  refine tL_mono (tL_bindL R1 k) fun vs H2 ⟨xs, ρ2, G2, R2, rvs, F2, k2⟩ => ?_
  exact k2 (v :: vs) H2 G2 R2 Fr.refl ⟨v, vs, rfl, RV.mono F2.grow x v rv, rvs⟩
theorem pmas_nil : PMAs X Wx [] nilA := paImp pa_nil fun σ H Q h => by
  obtain ⟨ρ, G, R, h⟩ := h
  exact h [] H G R Fr.refl True.intro
theorem pmas_cons {es : List Expr} {m : M A} {r : M (List A)} (h : PMA X Wx e m) (t : PMAs X Wx es r) (hs : starEach (e :: es) X.env = (false, eval e X.env) :: starEach es X.env) : PMAs X Wx (e :: es) (consA m r) := by
  refine paImp (pa_cons h t hs) fun σ H Q h => ?_
  obtain ⟨ρ, G, R, h⟩ := h
  refine tA_mono (tA_bindAs R h) fun v H1 ⟨x, ρ1, G1, R1, rv, F1, k⟩ => ?_
  refine tAs_mono (tAs_bindAs R1 k) fun vs H2 ⟨xs, ρ2, G2, R2, rvs, F2, k2⟩ => ?_
  exact k2 (v :: vs) H2 G2 R2 Fr.refl ⟨rv.mono F2.grow, rvs⟩
end
end FL
set_option Elab.async false
set_option linter.all false
set_option maxRecDepth 100000
set_option maxHeartbeats 2000000
namespace FL
open PySem PySem.Spec L2
open PyProof.Rows hiding St
theorem meets_enum1 {v : Value} {o : Obj} {Z : Heap → Prop} (B : Begins v o Z) :
    Meets (Builtin.«enumerate.__new__» ⟨[.type "enumerate", v], []⟩) (fun _ R s => Z s.heap ∧
      R (.ok (.ret (.ref (s.heap.push o).objs.size))) { s with heap := (s.heap.push o).push { cls := .type "enumerate", data := .fields #[.none, .bool false, .ref s.heap.objs.size, rawInt 0, .none, .none] } }) := by
  refine .of_wp fun prog w A R s h => ?_
  obtain ⟨hp, g, d, tk, os⟩ := s
  obtain ⟨h1, h⟩ := h
  have sub1 := sub_enumerate
  have go : ∀ {A' : Around} {E : Value → Shared → Prop} {Q : Value → Shared → Prop}, Q (.ref hp.objs.size) ⟨hp.push o, g, d, tk, os⟩ → wpAny (model prog w) A' (pyIter v) Q E ⟨hp, g, d, tk, os⟩ :=
    fun q => B.iter prog w _ _ ⟨hp, g, d, tk, os⟩ _ h1 q
  wp_walk using go
  refine wpAny_stack_any fun st => wpAny_pure ?_
  split
  · rename_i c _ _ _ _ _
    cases (c == Value.type "enumerate") <;> (wp_walk using go; exact ⟨_, rfl, h⟩)
  · wp_walk using go
    exact ⟨_, rfl, h⟩
theorem call_enum1 {prog : Program} {w : World} {A : Around} {E : Value → Shared → Prop} {s : Shared} {v : Value} {o : Obj} {Z : Heap → Prop} {Q : Value → Shared → Prop} (B : Begins v o Z) (hz : Z s.heap)
    (h : Q (.ref (s.heap.objs.size + 1)) { s with heap := (s.heap.push o).push { cls := .type "enumerate", data := .fields #[.none, .bool false, .ref s.heap.objs.size, rawInt 0, .none, .none] } }) :
    wpAny (model prog w) A (call (.type "enumerate") [v]) Q E s := by
  have sz : (s.heap.push o).objs.size = s.heap.objs.size + 1 := Heap.size_push ..
  have at_ : ((s.heap.push o).push { cls := .type "enumerate", data := .fields #[.none, .bool false, .ref s.heap.objs.size, rawInt 0, .none, .none] }).get? (s.heap.objs.size + 1) = some { cls := .type "enumerate", data := .fields #[.none, .bool false, .ref s.heap.objs.size, rawInt 0, .none, .none] } := by
    rw [← sz]
    exact Heap.get?_push_size _ rfl
  refine callType_new F.called_enumerate (by decide) (F.typeCall_enumerate_1 _) (F.newCall_enumerate_1 _) (fun obj => F.args_object_init_2 obj _) F.entry_enumerate_new (meets_enum1 B) ⟨hz, ?_⟩
  rw [sz]
  exact ⟨⟨_, at_, rfl⟩, h⟩
/-- the tuple at a, each item in a new pair -/
def Ike (K : PySem.W.Frag) (a : Addr) : It :=
  ⟨fun i H => ∃ (xs : List V) (x : V), SqT K H a xs ∧ xs[i]? = some x,
    fun i H v H' => ∃ T x, v = .ref T ∧ H T = none ∧ H' = upd H T (.tup [.int (i : Nat), x]) ∧ ∀ xs, SqT K H a xs → xs[i]? = some x,
    fun i H => ∃ xs : List V, SqT K H a xs ∧ xs.length = i⟩
theorem turn_enumT {P : Program} {w : World} {K : PySem.W.Frag} {elts : List Expr} {kk : Nat} {tpos : Pos} (a e it : Addr) :
    Turn P w K (.Tuple elts kk tpos) (Ike K a) [e, it] e (fun i h => (∃ old, IsEnum h e it ((i : Nat) : Int) old) ∧ h.IsTupleIter it a i ∧ e ≠ it ∧ a ≠ it ∧ a ≠ e) where
  mem := List.mem_cons_self
  obj := fun i h st b hb => by
    obtain ⟨⟨old, he⟩, ⟨o, ho, hc, hd⟩, _⟩ := st
    rcases List.mem_cons.mp hb with z | z
    · exact ⟨_, by rw [z]; exact he, fun v q => by cases q⟩
    · have z' : b = it := by simpa using z
      exact ⟨o, by rw [z']; exact ho, fun v q => by rw [hd] at q; cases q⟩
  keep := fun i h h' st k => by
    obtain ⟨⟨old, he⟩, hi, n⟩ := st
    exact ⟨⟨old, k e (by simp) _ he⟩, hi.at fun o q => k it (by simp) o q, n⟩
  item := by
    intro X hP hw hK hc i pins s σ H E I hf st hg
    subst hP hw hK
    obtain ⟨⟨old, he⟩, hit, hne, nai, nae⟩ := st
    obtain ⟨xs, x, hq, hx⟩ := hg
    obtain ⟨its, rv, p, hz⟩ := I.tuple hq
    obtain ⟨u, hu, ru⟩ := rv.get hx
    have p' : s.heap.IsTuple a its.toArray := p
    have D := Draws.tuple (prog := X.prog) (w := X.w) (A := X.A.in1) (I.ok.hd hc) it a nai its.toArray
    have hlt : i < its.toArray.size := by
      rw [List.size_toArray]
      exact (List.getElem?_eq_some_iff.mp hu).1
    have le : e < s.heap.objs.size := Heap.lt_size he
    have li : it < s.heap.objs.size := by obtain ⟨_, q, _⟩ := hit; exact Heap.lt_size q
    refine wpAny_pyNext_enum_itemD D he ⟨hit, p'⟩ hlt hne (by simp [hne, Ne.symm nae]) fun y h' tk hy ho hst hT hsz hk => ?_
    have ey : y = u := by
      have hy' : its.toArray[i]? = some y := hy
      rw [show its.toArray[i]? = some u by simpa using hu] at hy'
      exact (Option.some.inj hy').symm
    subst ey
    refine ⟨_, rfl, wpAny_letOwnedTupleGo_enum (s := { s with heap := h', toks := tk + 1 }) ho fun h2 he2 sb => ?_⟩
    have newT : h2.get? s.heap.objs.size = some { cls := .type "tuple", data := .seq #[.int i tk, y] } := (sb.2 _ (Nat.ne_of_gt le)).trans hT
    have okT : ObjOk X.prog X.w (upd H s.heap.objs.size (.tup [.int (i : Nat), x])) h2 s.heap.objs.size (.tup [.int (i : Nat), x]) :=
      ⟨by rw [sizeLine_eq]; simp, [.int i tk, y], .cons ⟨_, rfl⟩ (.cons ru .nil), ⟨_, newT, rfl, _, rfl⟩⟩
    have I1 := I.turnedNew (t' := tk + 1) (h' := h2) (ch := [e, it]) (fun b ob hb q => (sb.2 b (fun z => hb (by simp [z]))).trans (hk b ob (fun z => hb (by simp [z])) (fun z => hb (by simp [z])) q)) hf (Nat.le_refl _) okT
    refine ⟨.ref s.heap.objs.size, _, I1, rfl, ⟨_, x, rfl, I.hok.fresh (Nat.le_refl _), rfl, fun ys hy => by rw [I.tuple_inj hy hq]; exact hx⟩, ⟨⟨y, ?_⟩, hst.1.at fun o q => (sb.2 it (Ne.symm hne)).trans q, hne, nai, nae⟩, fun b hb => ?_⟩
    · rw [show ((i + 1 : Nat) : Int) = (i : Int) + 1 by omega]
      exact he2
    · have lb : b < s.heap.objs.size := by
        rcases List.mem_cons.mp hb with z | z
        · rw [z]; exact le
        · have z' : b = it := by simpa using z
          rw [z']; exact li
      rw [upd_ne (Nat.ne_of_lt lb)]
      exact (hf b hb).1
  done := by
    intro X hP hw hK hc i pins s σ H E I hf st hg
    subst hP hw hK
    obtain ⟨⟨old, he⟩, hit, hne, nai, nae⟩ := st
    obtain ⟨xs, hq, hx⟩ := hg
    obtain ⟨its, rv, p, hz⟩ := I.tuple hq
    have p' : s.heap.IsTuple a its.toArray := p
    obtain ⟨f0, f1, f2, f3, f4, f5⟩ := hf it (by simp)
    have hl := rv.length
    have ei : i = its.toArray.size := by rw [List.size_toArray, ← hl, hx]
    have D := Draws.tuple (prog := X.prog) (w := X.w) (A := X.A.in1) (I.ok.hd hc) it a nai its.toArray
    exact wpAny_pyNext_enum_endD D he ⟨ei ▸ hit, p'⟩ fun h' eb => ⟨rfl, I.turned (t' := s.toks) (fun b o hb q => eb b o hb q) f0 f1 f3 f4 f5⟩
  self := fun A i s Q E st h => let ⟨⟨_, he⟩, _⟩ := st; wpAny_pyIter_enum he h
/-- enumerate(t), t a tuple -/
def iEnumT (K : PySem.W.Frag) (ta : TA) : TI := fun σ H R => ta σ H fun vs H1 => ∃ a xs, vs = [.ref a] ∧ SqT K H1 a xs ∧ R (Ike K a) H1
theorem pi_enumT {X : Cx} {e : Expr} {ta : TA} {p pos tpos : Pos} {elts : List Expr} {kk : Nat} (hg : Gl X "enumerate") (hm : X.mg "enumerate" = none) (ha : PA X [e] ta) (hs : starEach [e] X.env = [(false, eval e X.env)]) :
    PI X (.Tuple elts kk tpos) (.Call (.Name "enumerate" p) [e] [] pos) (iEnumT X.K ta) := by
  refine ⟨fun pins s σ H R I h => Call_ (ld_blt I hg hm boot_enumerate (PyProof.Rows.callWith_type1 (thn (ha.run pos pins s σ H _ I h) fun us s1 ⟨vs, H1, I1, r1, q1⟩ => ?_) hs rfl))⟩
  obtain ⟨a, xs, ex, hq, q⟩ := q1
  subst ex
  cases r1 with
  | cons r rr =>
    cases rr
    cases r
    obtain ⟨its, rv, tp, hz⟩ := I1.tuple hq
    have p' : s1.heap.IsTuple a its.toArray := tp
    have la : a < s1.heap.objs.size := by
      obtain ⟨o, ho, _⟩ := p'
      exact Heap.lt_size ho
    have sz : (s1.heap.push { cls := .type "tuple_iterator", data := .fields #[.ref a, .int 0 0] }).objs.size = s1.heap.objs.size + 1 := Heap.size_push ..
    have at_ : ((s1.heap.push { cls := .type "tuple_iterator", data := .fields #[.ref a, .int 0 0] }).push { cls := .type "enumerate", data := .fields #[.none, .bool false, .ref s1.heap.objs.size, rawInt 0, .none, .none] }).get? (s1.heap.objs.size + 1) = some { cls := .type "enumerate", data := .fields #[.none, .bool false, .ref s1.heap.objs.size, rawInt 0, .none, .none] } := by
      rw [← sz]
      exact Heap.get?_push_size _ rfl
    refine call_enum1 (begins_tuple a its.toArray) p' (wpAny_pyIter_enum at_ ?_)
    refine ⟨s1.heap.objs.size + 1, [s1.heap.objs.size + 1, s1.heap.objs.size], _, Ike X.K a, H1, rfl, I1.kept (t' := s1.toks) fun b o q => Heap.get?_push_of_some _ (Heap.get?_push_of_some _ q), turn_enumT a (s1.heap.objs.size + 1) s1.heap.objs.size,
      ⟨⟨.none, at_⟩, ⟨_, Heap.get?_push_of_some _ (Heap.get?_push_size _ rfl), rfl, rfl⟩, Nat.succ_ne_self _, Nat.ne_of_lt la, Nat.ne_of_lt (Nat.lt_succ_of_lt la)⟩, fun b hb => ?_, q⟩
    have le : s1.heap.objs.size ≤ b := by
      rcases List.mem_cons.mp hb with z | z
      · rw [z]; exact Nat.le_succ _
      · have z' : b = s1.heap.objs.size := by simpa using z
        exact Nat.le_of_eq z'.symm
    exact I1.fpOk le (I1.hok.fresh le)
theorem walk_enumT {K : PySem.W.Frag} {a : Addr} {xs : List V} : Walk (Ike K a) xs.length (fun H => SqT K H a xs) (YPair (fun i => some (.int (i : Nat))) (fun i => xs[i]?)) := by
  refine ⟨fun i H hi q => ⟨xs, xs[i], q, by simp [hi]⟩, fun H q => ⟨xs, q, rfl⟩, fun i H v H' hi q y => ?_⟩
  obtain ⟨T, x, h1, h2, h3, h4⟩ := y
  exact ⟨T, _, x, h1, h2, h3, rfl, h4 xs q⟩
/-- the items at the places that the machine reckons -/
def stepBy {α : Type} (xs : List α) (lo hi : Option Int) (st : Int) : List α :=
  (List.range (Builtin.Slice.slicePlaces (Builtin.Slice.sliceAdjust lo hi st (xs.length : Int)).1 (Builtin.Slice.sliceAdjust lo hi st (xs.length : Int)).2 st)).filterMap fun (m : Nat) => xs[((Builtin.Slice.sliceAdjust lo hi st (xs.length : Int)).1 + (m : Int) * st).toNat]?
theorem stepBy_len {α : Type} (xs : List α) (lo hi : Option Int) (st : Int) :
    (stepBy xs lo hi st).length ≤ Builtin.Slice.slicePlaces (Builtin.Slice.sliceAdjust lo hi st (xs.length : Int)).1 (Builtin.Slice.sliceAdjust lo hi st (xs.length : Int)).2 st := by
  unfold stepBy
  refine Nat.le_trans (List.length_filterMap_le _ _) ?_
  exact Nat.le_of_eq (List.length_range)
section
variable {prog : Program} {w : World} {A : Around} {E : Value → Shared → Prop} {s : Shared}
theorem sliceApplied_step {sl : Addr} {vl vu : Value} {lo hi : Option Int} {st n : Int} {t : Tok} {Q : Int × Int × Nat → Shared → Prop} (hs : s.heap.IsSliceOf sl vl vu (.int st t)) (h0 : st ≠ 0) (pl : IsPart vl lo) (pu : IsPart vu hi)
    (h : Q ((Builtin.Slice.sliceAdjust lo hi st n).1, st, Builtin.Slice.slicePlaces (Builtin.Slice.sliceAdjust lo hi st n).1 (Builtin.Slice.sliceAdjust lo hi st n).2 st) s) :
    wpAny (model prog w) A (Builtin.Slice.sliceApplied (.ref sl) (pure n)) Q E s := by
  obtain ⟨os, hos, hcs, hds⟩ := id hs
  have hb : (st == 0) = false := beq_eq_false_iff_ne.mpr h0
  unfold Builtin.Slice.sliceApplied Builtin.Slice.sliceFields
  refine wpAny_bind (wpAny_bind (wpAny_field hos hds (x := vl) rfl (wpAny_bind (wpAny_field hos hds (x := vu) rfl (wpAny_bind (wpAny_field hos hds (x := .int st t) rfl (wpAny_pure ?_)))))))
  refine wpAny_bind (HT.slicePart_ (.int st t) ?_)
  show wpAny _ _ (if (st == 0) = true then _ else _) _ _ s
  rw [if_neg (by rw [hb]; decide)]
  exact wpAny_bind (HT.slicePart_ pl (wpAny_bind (HT.slicePart_ pu (wpAny_bind (wpAny_pure (wpAny_pure h))))))
theorem getItem_tuple_step {t sl : Addr} {items : List Value} {vl vu : Value} {lo hi : Option Int} {st : Int} {k : Tok} {Q : Value → Shared → Prop} (ht : IsTup s.heap t items.toArray) (hs : s.heap.IsSliceOf sl vl vu (.int st k)) (h0 : st ≠ 0) (h1 : st ≠ 1) (pl : IsPart vl lo) (pu : IsPart vu hi)
    (hz : (stepBy items lo hi st).length ≤ sizeLine)
    (h : Q (.ref s.heap.objs.size) { s with heap := s.heap.push { cls := .type "tuple", data := .seq (stepBy items lo hi st).toArray } }) :
    wpAny (model prog w) A (getItem (.ref t) (.ref sl)) Q E s := by
  have hok : PySem.sizeOk (.seq (stepBy items lo hi st).toArray) := by
    show (stepBy items lo hi st).toArray.size ≤ sizeLine
    rw [List.size_toArray]
    exact hz
  obtain ⟨os, hos, hcs, hds⟩ := id hs
  have isS : s.TypeIs (.ref sl) "slice" := ⟨os, hos, hcs⟩
  have hb1 : (st == 1) = false := beq_eq_false_iff_ne.mpr h1
  unfold getItem
  try with_reducible refine wpAny_holding ?_
  first | refine wpAny_bind (wpAny_pure ?_) | skip
  refine wpAny_bind (wpAny_sequenceKey ht.typeIs (by decide) ?_)
  refine wpAny_bind (wpAny_callSpecial?_slot (name := Str.ofString "__getitem__") ht.typeIs PyProof.Rows.slot_tuple_getitem (wpAny_call_entry PyProof.Rows.slot_tuple_getitem ht.typeIs entry_tuple_getitem ?_ (args_tuple_getitem _ _)))
  show wpAny _ _ (Builtin.Tuple.tupleItemsOf (.ref t) >>= _) _ _ s
  refine wpAny_bind (tupleItemsOf_ ht (wpAny_bind (wpAny_typeOf isS ?_)))
  rw [if_pos (by decide)]
  refine wpAny_bind (sliceApplied_step hs h0 pl pu ?_)
  have isz : ((items.toArray.size : Nat) : Int) = (items.length : Int) := by rw [List.size_toArray]
  have pick : ((List.range (Builtin.Slice.slicePlaces (Builtin.Slice.sliceAdjust lo hi st (items.toArray.size : Int)).1 (Builtin.Slice.sliceAdjust lo hi st (items.toArray.size : Int)).2 st)).filterMap fun (m : Nat) => items.toArray[((Builtin.Slice.sliceAdjust lo hi st (items.toArray.size : Int)).1 + (m : Int) * st).toNat]?) = stepBy items lo hi st := by
    unfold stepBy
    rw [isz]
    congr 1
    funext m
    simp
  show wpAny _ _ (if ((Builtin.Slice.sliceAdjust lo hi st (items.toArray.size : Int)).1 == 0 && st == 1 && Builtin.Slice.slicePlaces (Builtin.Slice.sliceAdjust lo hi st (items.toArray.size : Int)).1 (Builtin.Slice.sliceAdjust lo hi st (items.toArray.size : Int)).2 st == items.toArray.size) = true then _ else _) _ _ s
  rw [if_neg (by rw [hb1]; simp), pick]
  first
    | exact wpAny_bind (m := Builtin.Tuple.tupleExact _) (wpAny_newObj_type (wpAny_pure ⟨_, rfl, wpAny_pure h⟩) hok)
    | exact wpAny_bind (m := Builtin.Tuple.tupleExact _) (wpAny_newObj_type (wpAny_bind (wpAny_pure (wpAny_pure ⟨_, rfl, wpAny_pure h⟩))) hok)
    | exact wpAny_bind (wpAny_bind (m := Builtin.Tuple.tupleExact _) (wpAny_newObj_type (wpAny_pure (wpAny_pure ⟨_, rfl, wpAny_pure h⟩)) hok))
    | exact wpAny_bind (wpAny_bind (m := Builtin.Tuple.tupleExact _) (wpAny_newObj_type (wpAny_pure ⟨_, rfl, wpAny_pure h⟩) hok))
end
theorem stepBy_rel {K : PySem.W.Frag} {mg : Str → Option Value} {G : Hp} {ds : List D} {xs : List V} {lo hi : Option Int} {st : Int} (r : RVs K mg G ds xs) : RVs K mg G (stepBy ds lo hi st) (stepBy xs lo hi st) := by
  have pick : ∀ (f : Nat → Nat) (l : List Nat), RVs K mg G (l.filterMap fun m => ds[f m]?) (l.filterMap fun m => xs[f m]?) := fun f l => by
    induction l with
    | nil => exact rfl
    | cons m l ih =>
      cases e : ds[f m]? with
      | none =>
        have e2 : xs[f m]? = none := by
          rw [List.getElem?_eq_none_iff] at e ⊢
          rw [← r.length]
          exact e
        have h1 : (m :: l).filterMap (fun m => ds[f m]?) = l.filterMap fun m => ds[f m]? := List.filterMap_cons_none (f := fun m => ds[f m]?) e
        have h2 : (m :: l).filterMap (fun m => xs[f m]?) = l.filterMap fun m => xs[f m]? := List.filterMap_cons_none (f := fun m => xs[f m]?) e2
        rw [h1, h2]
        exact ih
      | some d =>
        obtain ⟨v, e2, rv⟩ := r.get e
        have h1 : (m :: l).filterMap (fun m => ds[f m]?) = d :: l.filterMap fun m => ds[f m]? := List.filterMap_cons_some (f := fun m => ds[f m]?) e
        have h2 : (m :: l).filterMap (fun m => xs[f m]?) = v :: l.filterMap fun m => xs[f m]? := List.filterMap_cons_some (f := fun m => xs[f m]?) e2
        rw [h1, h2]
        exact ⟨v, _, rfl, rv, ih⟩
  unfold stepBy
  rw [r.length]
  exact pick (fun m => ((Builtin.Slice.sliceAdjust lo hi st (xs.length : Int)).1 + (m : Int) * st).toNat) _
theorem stepBy_vals {us : List Value} {xs : List V} {lo hi : Option Int} {st : Int} (r : Vals xs us) : Vals (stepBy xs lo hi st) (stepBy us lo hi st) := by
  have pick : ∀ (f : Nat → Nat) (l : List Nat), Vals (l.filterMap fun m => xs[f m]?) (l.filterMap fun m => us[f m]?) := fun f l => by
    induction l with
    | nil => exact .nil
    | cons m l ih =>
      cases e : xs[f m]? with
      | none =>
        have e2 : us[f m]? = none := by
          rw [List.getElem?_eq_none_iff] at e ⊢
          rw [← r.length]
          exact e
        have h1 : (m :: l).filterMap (fun m => xs[f m]?) = l.filterMap fun m => xs[f m]? := List.filterMap_cons_none (f := fun m => xs[f m]?) e
        have h2 : (m :: l).filterMap (fun m => us[f m]?) = l.filterMap fun m => us[f m]? := List.filterMap_cons_none (f := fun m => us[f m]?) e2
        rw [h1, h2]
        exact ih
      | some d =>
        obtain ⟨v, e2, rv⟩ := r.get e
        have h1 : (m :: l).filterMap (fun m => xs[f m]?) = d :: l.filterMap fun m => xs[f m]? := List.filterMap_cons_some (f := fun m => xs[f m]?) e
        have h2 : (m :: l).filterMap (fun m => us[f m]?) = v :: l.filterMap fun m => us[f m]? := List.filterMap_cons_some (f := fun m => us[f m]?) e2
        rw [h1, h2]
        exact .cons rv ih
  unfold stepBy
  rw [r.length]
  exact pick (fun m => ((Builtin.Slice.sliceAdjust lo hi st (us.length : Int)).1 + (m : Int) * st).toNat) _
/-- by values: the tuple, the parts, the step -/
def rStT (K : PySem.W.Frag) : V → Option Int → Option Int → Option Int → Hp → VK → Prop := fun x lo hi st H Q => ∃ a xs k, x = .ref a ∧ SqT K H a xs ∧ st = some k ∧ k ≠ 0 ∧ k ≠ 1 ∧ (stepBy xs lo hi k).length ≤ sizeLine ∧ ∀ p, H p = none → Q (.ref p) (upd H p (.tup (stepBy xs lo hi k)))
def pickL {α : Type} (xs : List α) (lo hi st : Option Int) : List α := (sliceRange (sliceBounds lo hi st xs.length).1 (sliceBounds lo hi st xs.length).2.1 (sliceBounds lo hi st xs.length).2.2).filterMap fun m => xs[m]?
theorem pickL_arr (items : List Value) (lo hi st : Option Int) : slicePick items.toArray lo hi st = (pickL items lo hi st).toArray := by
  unfold slicePick pickL
  rw [List.size_toArray]
  congr 1
  congr 1
  funext m
  simp
theorem pickL_len {xs : List V} {us : List Value} (r : Vals xs us) (lo hi st : Option Int) : (pickL us lo hi st).length ≤ us.length := by
  have h := slicePick_size_le us.toArray lo hi st
  rw [pickL_arr, List.size_toArray, List.size_toArray] at h
  exact h
theorem pickL_rel {K : PySem.W.Frag} {mg : Str → Option Value} {G : Hp} {ds : List D} {xs : List V} {lo hi st : Option Int} (r : RVs K mg G ds xs) : RVs K mg G (pickL ds lo hi st) (pickL xs lo hi st) := by
  have pick : ∀ (l : List Nat), RVs K mg G (l.filterMap fun m => ds[m]?) (l.filterMap fun m => xs[m]?) := fun l => by
    induction l with
    | nil => exact rfl
    | cons m l ih =>
      cases e : ds[m]? with
      | none =>
        have e2 : xs[m]? = none := by
          rw [List.getElem?_eq_none_iff] at e ⊢
          rw [← r.length]
          exact e
        rw [List.filterMap_cons_none (f := fun m => ds[m]?) e, List.filterMap_cons_none (f := fun m => xs[m]?) e2]
        exact ih
      | some d =>
        obtain ⟨v, e2, rv⟩ := r.get e
        rw [List.filterMap_cons_some (f := fun m => ds[m]?) e, List.filterMap_cons_some (f := fun m => xs[m]?) e2]
        exact ⟨v, _, rfl, rv, ih⟩
  unfold pickL
  rw [r.length]
  exact pick _
theorem pickL_vals {us : List Value} {xs : List V} {lo hi st : Option Int} (r : Vals xs us) : Vals (pickL xs lo hi st) (pickL us lo hi st) := by
  have pick : ∀ (l : List Nat), Vals (l.filterMap fun m => xs[m]?) (l.filterMap fun m => us[m]?) := fun l => by
    induction l with
    | nil => exact .nil
    | cons m l ih =>
      cases e : xs[m]? with
      | none =>
        have e2 : us[m]? = none := by
          rw [List.getElem?_eq_none_iff] at e ⊢
          rw [← r.length]
          exact e
        rw [List.filterMap_cons_none (f := fun m => xs[m]?) e, List.filterMap_cons_none (f := fun m => us[m]?) e2]
        exact ih
      | some d =>
        obtain ⟨v, e2, rv⟩ := r.get e
        rw [List.filterMap_cons_some (f := fun m => xs[m]?) e, List.filterMap_cons_some (f := fun m => us[m]?) e2]
        exact .cons rv ih
  unfold pickL
  rw [r.length]
  exact pick _
def rStL (K : PySem.W.Frag) : V → Option Int → Option Int → Option Int → Hp → VK → Prop := fun x lo hi st H Q => ∃ a xs k, x = .ref a ∧ SqL K H a xs ∧ st = some k ∧ k ≠ 0 ∧ ∀ p, H p = none → Q (.ref p) (upd H p (.lst (pickL xs lo hi (some k))))
def rStA (K : PySem.W.Frag) : V → Option Int → Option Int → Option Int → Hp → VK → Prop := fun x lo hi st H Q => rStT K x lo hi st H Q ∨ rStL K x lo hi st H Q
def tSlS (r : V → Option Int → Option Int → Option Int → Hp → VK → Prop) (te : TE) (tl th ts : TO) : TE := fun σ H Q => te σ H fun x H1 => tl σ H1 fun l H2 => th σ H2 fun u H3 => ts σ H3 fun k H4 => r x l u k H4 Q
section
variable {X : Cx} {e st : Expr} {te : TE} {lo hi : Option Expr} {tl th ts : TO} {pos p2 : Pos}
theorem pe_sliceS (he : PE X e te) (hl : PO X lo tl) (hu : PO X hi th) (hst : PO X (some st) ts) : PE X (.Subscript e (.Slice lo hi (some st) p2) pos) (tSlS (rStA X.K) te tl th ts) := by
  refine ⟨fun pins s σ H Q I h => Subscript_ (thn (he.run pins s σ H _ I h) fun v s1 ⟨x, H1, I1, r1, q1⟩ => ?_)⟩
  refine wpAny_Slice (thn (hl.run pins s1 σ H1 _ I1 q1) fun vl s2 ⟨l, H2, I2, pl, q2⟩ => thn (hu.run pins s2 σ H2 _ I2 q2) fun vu s3 ⟨u, H3, I3, pu, q3⟩ => thn (hst.run pins s3 σ H3 _ I3 q3) fun vk s4 ⟨k, H4, I4, pk, q4⟩ => ?_)
  rcases q4 with q4 | q4
  rotate_left
  · obtain ⟨a, xs, k', rfl, hx, rfl, k0, q⟩ := q4
    cases r1
    cases pk with
    | int _ t =>
      have I5 : Inv X pins σ H4 { s4 with heap := s4.heap.push { cls := .type "slice", data := .fields #[vl, vu, .int k' t] } } := I4.kept (t' := s4.toks) fun b ob q => Heap.get?_push_of_some _ q
      obtain ⟨its, r, ht, hzz⟩ := I5.list hx
      show wpAny (model X.prog X.w) X.A (subscriptTail e (.Slice lo hi (some st) p2) (.ref a) (.ref s4.heap.objs.size)) (EP X pins σ Q) X.xe { s4 with heap := s4.heap.push { cls := .type "slice", data := .fields #[vl, vu, .int k' t] } }
      have rs := pickL_vals (lo := l) (hi := u) (st := some k') r
      refine tail_any (ops := [.ref a, .ref s4.heap.objs.size]) ht.isList.typeIs slot_list_getitem.lookup (wpAny_getItem_list_slice ht.isList (Heap.IsSliceOf.new ..) pl pu (.int k' t) (by simpa using k0) ?_ (by rw [List.size_toArray, ← r.length]; exact hzz)) (by with_unfolding_all rfl)
      rw [pickL_arr]
      have fr := I5.hok.fresh (Nat.le_refl _)
      refine ⟨.ref _, _, I5.laid (t' := s4.toks) (o := .lst (pickL xs l u (some k'))) (fun b ob q => Heap.get?_push_of_some _ q) (Nat.le_refl _) ⟨?_, _, _, rs, Heap.get?_push_size _ rfl⟩, rfl, q _ fr⟩
      rw [rs.length]
      exact Nat.le_trans (pickL_len r l u (some k')) (by rw [← r.length]; exact hzz)
  obtain ⟨a, xs, k', rfl, hx, rfl, k0, k1, hz, q⟩ := q4
  cases r1
  cases pk with
  | int _ t =>
    have I5 : Inv X pins σ H4 { s4 with heap := s4.heap.push { cls := .type "slice", data := .fields #[vl, vu, .int k' t] } } := I4.kept (t' := s4.toks) fun b ob q => Heap.get?_push_of_some _ q
    obtain ⟨its, r, ht, hzz⟩ := I5.tuple hx
    show wpAny (model X.prog X.w) X.A (subscriptTail e (.Slice lo hi (some st) p2) (.ref a) (.ref s4.heap.objs.size)) (EP X pins σ Q) X.xe { s4 with heap := s4.heap.push { cls := .type "slice", data := .fields #[vl, vu, .int k' t] } }
    have rs := stepBy_vals (lo := l) (hi := u) (st := k') r
    refine tail_any (ops := [.ref a, .ref s4.heap.objs.size]) ht.typeIs PyProof.Rows.slot_tuple_getitem.lookup (getItem_tuple_step ht (Heap.IsSliceOf.new ..) k0 k1 pl pu (by rw [← rs.length]; exact hz) ?_) (by with_unfolding_all rfl)
    have fr := I5.hok.fresh (Nat.le_refl _)
    exact ⟨.ref _, _, I5.laid (t' := s4.toks) (o := .tup (stepBy xs l u k')) (fun b ob q => Heap.get?_push_of_some _ q) (Nat.le_refl _) ⟨hz, _, rs, IsTup.new _ _⟩, rfl, q _ fr⟩
end
end FL
set_option Elab.async false
set_option linter.all false
set_option maxRecDepth 100000
set_option maxHeartbeats 2000000
namespace FL
open PySem PySem.Spec L2
open PyProof.Rows hiding St
theorem tup_mul_same (l : Addr) (items : Array Value) (n : Nat) (dd : Option Addr) (sl : Array (Option Value)) (x : Int) (u : Tok) (c0 : (decide (x < -(2 ^ 63)) || decide (x ≥ 2 ^ 63)) = false) (c1 : (items.isEmpty || x == 1) = true) :
    Meets (Builtin.«tuple.__mul__» ⟨[.ref l, .int x u], []⟩) (fun _ R s => s.heap.get? l = some { cls := .type "tuple", dict := dd, data := .seq items n, slots := sl } ∧ R (.ok (.ret (Value.ref l))) s) := by
  refine .of_wp fun prog w A R s h => ?_
  obtain ⟨hp, g, d, tk, os⟩ := s
  obtain ⟨hl, h⟩ := h
  have ix := AutoSeq1.idx_int
  wp_walk using wpAny_loadPart' hl
  repeat (first
    | (refine wpAny_ite_false (decide_eq_false (by rw [c0]; exact Bool.false_ne_true)) ?_; wp_walk using wpAny_loadPart' hl)
    | (refine wpAny_ite_true (decide_eq_true c1) ?_; wp_walk using wpAny_loadPart' hl))
  exact ⟨_, rfl, h⟩
theorem tup_mul_none (l : Addr) (items : Array Value) (n : Nat) (dd : Option Addr) (sl : Array (Option Value)) (x : Int) (u : Tok) (c0 : (decide (x < -(2 ^ 63)) || decide (x ≥ 2 ^ 63)) = false) (c1 : (items.isEmpty || x == 1) = false) (c2 : (decide (x ≤ 0) || items.isEmpty) = true) :
    Meets (Builtin.«tuple.__mul__» ⟨[.ref l, .int x u], []⟩) (fun _ R s => s.heap.get? l = some { cls := .type "tuple", dict := dd, data := .seq items n, slots := sl } ∧
      R (.ok (.ret (Value.ref s.heap.objs.size))) { s with heap := s.heap.push { cls := Value.type "tuple", data := Data.seq #[] }, toks := s.toks }) := by
  refine .of_wp fun prog w A R s h => ?_
  obtain ⟨hp, g, d, tk, os⟩ := s
  obtain ⟨hl, h⟩ := h
  have ix := AutoSeq1.idx_int
  wp_walk using wpAny_loadPart' hl
  repeat (first
    | (refine wpAny_ite_false (decide_eq_false (by rw [c0]; exact Bool.false_ne_true)) ?_; wp_walk using wpAny_loadPart' hl)
    | (refine wpAny_ite_false (decide_eq_false (by rw [c1]; exact Bool.false_ne_true)) ?_; wp_walk using wpAny_loadPart' hl)
    | (refine wpAny_ite_true (decide_eq_true c2) ?_; wp_walk using wpAny_loadPart' hl))
  exact ⟨_, rfl, h⟩
/-- t * k, k at most 1: t itself, or a new empty one -/
def rRepS (K : PySem.W.Frag) : R2 := fun x y H Q => ∃ l k xs, x = .ref l ∧ y = .int k ∧ SqT K H l xs ∧ k ≤ 1 ∧ -(2 ^ 63) ≤ k ∧
  (xs = [] ∨ k = 1 → Q (.ref l) H) ∧ (xs ≠ [] → k ≤ 0 → ∀ p, H p = none → Q (.ref p) (upd H p (.tup [])))
theorem op_repS {X : Cx} : OpR X (binaryOp .Mult) (rRepS X.K) := by
  intro pins s σ H x y v u Q I rx ry h
  obtain ⟨l, k, xs, rfl, rfl, hT, h1, h2, q1, q2⟩ := h
  cases rx
  obtain ⟨t, rfl⟩ := ry
  obtain ⟨its, r, ⟨⟨cls, dd, data, sl⟩, ho, hc, n, hd⟩, hs⟩ := I.tuple hT
  simp only at hc hd
  subst hc hd
  have hle := r.length
  have c0 : (decide (k < -(2 ^ 63)) || decide (k ≥ 2 ^ 63)) = false := by
    rw [decide_eq_false (by omega), decide_eq_false (by omega)]
    rfl
  have emp : its.toArray.isEmpty = decide (xs = []) := by
    cases its with
    | nil =>
      cases xs with
      | nil => rfl
      | cons a b => simp at hle
    | cons a b =>
      cases xs with
      | nil => simp at hle
      | cons c d => rfl
  refine wpAny_binaryOp_repeat_ref (T := "tuple") (U := "int") (by decide) ⟨_, ho, rfl⟩ (fun s' => typeIs_int s' k t) noFill_tuple_mul F.fills_int_mul F.slot_int_rmul repeat_tuple F.slot_int_index.lookup
    (call_meets F.slot_int_rmul (typeIs_int s k t) F.entry_int_rmul (F.args_int_rmul_2 _ _) (int_rmul_tuple k t l its.toArray n dd sl) ⟨ho, rfl, ⟨_, ho, rfl⟩, ?_⟩)
  by_cases c : xs = [] ∨ k = 1
  · refine call_meets F.slot_tuple_mul ⟨_, ho, rfl⟩ F.entry_tuple_mul (F.args_tuple_mul_2 _ _) (tup_mul_same l its.toArray n dd sl k t c0 ?_) ⟨ho, ⟨.ref l, H, I, rfl, q1 c⟩⟩
    rw [emp]
    rcases c with c | c
    · rw [decide_eq_true c]; rfl
    · rw [c]; simp
  · have cx : xs ≠ [] := fun z => c (.inl z)
    have ck : k ≠ 1 := fun z => c (.inr z)
    refine call_meets F.slot_tuple_mul ⟨_, ho, rfl⟩ F.entry_tuple_mul (F.args_tuple_mul_2 _ _) (tup_mul_none l its.toArray n dd sl k t c0 ?_ ?_) ⟨ho, ?_⟩
    · rw [emp, decide_eq_false cx, Bool.false_or]
      exact beq_eq_false_iff_ne.mpr ck
    · rw [decide_eq_true (show k ≤ 0 by omega)]
      rfl
    · refine ⟨.ref s.heap.objs.size, _, I.laid (t' := s.toks) (o := .tup []) (fun b ob q => Heap.get?_push_of_some _ q) (Nat.le_refl _) ?_, rfl, q2 cx (by omega) _ (I.hok.fresh (Nat.le_refl _))⟩
      exact ⟨Nat.zero_le _, [], .nil, IsTup.new _ _⟩
end FL
set_option Elab.async false
set_option linter.all false
set_option maxRecDepth 100000
set_option maxHeartbeats 2000000
namespace FL
open PySem PySem.Spec L2
open PyProof.Rows hiding St
/-- a pure operation of two data -/
def rP2 (K : PySem.W.Frag) (mg : Str → Option Value) (φ : D → D → Option W) : R2 := fun x y H Q =>
  ∃ G a b w, SubH G H ∧ RH K mg H G a x ∧ RH K mg H G b y ∧ φ a b = some w ∧ ∀ v H' G', Al K mg H G H' G' v w → Q v H'
def rP1 (K : PySem.W.Frag) (mg : Str → Option Value) (φ : D → Option W) : V → Hp → VK → Prop := fun x H Q =>
  ∃ G a w, SubH G H ∧ RH K mg H G a x ∧ φ a = some w ∧ ∀ v H' G', Al K mg H G H' G' v w → Q v H'
def RHs (K : PySem.W.Frag) (mg : Str → Option Value) (H G : Hp) : List D → List V → Prop
  | [], [] => True
  | d :: ds, v :: vs => RH K mg H G d v ∧ RHs K mg H G ds vs
  | _, _ => False
def rPn (K : PySem.W.Frag) (mg : Str → Option Value) (φ : List D → Option W) : List V → Hp → VK → Prop := fun xs H Q =>
  ∃ G ds w, SubH G H ∧ RHs K mg H G ds xs ∧ φ ds = some w ∧ ∀ v H' G', Al K mg H G H' G' v w → Q v H'
def liftM {α : Type} (o : Option α) : M α := fun ρ => match o with
  | some a => .ok a ρ
  | none => .bad
def op2 (φ : D → D → Option W) (x y : A) : M W := fun ρ => match x.res ρ, y.res ρ with
  | some a, some b => liftM (φ a b) ρ
  | _, _ => .bad
def op1 (φ : D → Option W) (x : A) : M W := fun ρ => match x.res ρ with
  | some a => liftM (φ a) ρ
  | _ => .bad
def resAll (ρ : Rho) : List A → Option (List D)
  | [] => some []
  | a :: as => match a.res ρ, resAll ρ as with
    | some x, some xs => some (x :: xs)
    | _, _ => none
def opn (φ : List D → Option W) (xs : List A) : M W := fun ρ => match resAll ρ xs with
  | some ds => liftM (φ ds) ρ
  | none => .bad
section
variable {K : PySem.W.Frag} {mg : Str → Option Value} {Wx : WG} {σ : St} {ρ : Rho} {H G : Hp} {Q : VK} {x y : V} {a b : A}
theorem op2_go {φ : D → D → Option W} (R : Rel K mg Wx.fl σ ρ H G) (ra : RAt K mg σ G x a) (rb : RAt K mg σ G y b) (h : GoE K mg Wx σ ρ H G (op2 φ a b ρ) Q) : rP2 K mg φ x y H Q := by
  unfold op2 at h
  split at h
  · rename_i da db ea eb
    unfold liftM at h
    split at h
    · rename_i w e
      exact ⟨G, da, db, w, R.sub, ra.read R ea, rb.read R eb, e, fun v H' G' al => GoE.al R al h⟩
    · exact h.elim
  · exact h.elim
theorem op1_go {φ : D → Option W} (R : Rel K mg Wx.fl σ ρ H G) (ra : RAt K mg σ G x a) (h : GoE K mg Wx σ ρ H G (op1 φ a ρ) Q) : rP1 K mg φ x H Q := by
  unfold op1 at h
  split at h
  · rename_i da ea
    unfold liftM at h
    split at h
    · rename_i w e
      exact ⟨G, da, w, R.sub, ra.read R ea, e, fun v H' G' al => GoE.al R al h⟩
    · exact h.elim
  · exact h.elim
theorem resAll_read (R : Rel K mg fl σ ρ H G) : ∀ {vs : List V} {as : List A} {ds : List D}, RAs K mg σ G vs as → resAll ρ as = some ds → RHs K mg H G ds vs
  | [], [], ds, _, e => by
    have e' : ([] : List D) = ds := Option.some.inj e
    subst e'
    exact True.intro
  | v :: vs, a :: as, ds, ⟨h, t⟩, e => by
    unfold resAll at e
    split at e
    · rename_i z zs e1 e2
      have e' := Option.some.inj e
      subst e'
      exact ⟨h.read R e1, resAll_read R t e2⟩
    · cases e
  | [], _ :: _, _, h, _ => h.elim
  | _ :: _, [], _, h, _ => h.elim
theorem opn_go {φ : List D → Option W} {vs : List V} {as : List A} (R : Rel K mg Wx.fl σ ρ H G) (ra : RAs K mg σ G vs as) (h : GoE K mg Wx σ ρ H G (opn φ as ρ) Q) : rPn K mg φ vs H Q := by
  unfold opn at h
  split at h
  · rename_i ds e
    unfold liftM at h
    split at h
    · rename_i w ew
      exact ⟨G, ds, w, R.sub, resAll_read R ra e, ew, fun v H' G' al => GoE.al R al h⟩
    · exact h.elim
  · exact h.elim
end
def sizeOk (n : Nat) : Bool := decide (n ≤ 16777216)
theorem sizeOk_le {n : Nat} (h : sizeOk n = true) : n ≤ sizeLine := by
  rw [sizeLine_eq]
  exact of_decide_eq_true h
def addW : D → D → Option W
  | .int a, .int b => some (.d (.int (a + b)))
  | .str a, .str b => if sizeOk (a.length + b.length) = true then some (.d (.str (a ++ b))) else none
  | .lst a, .lst b => if sizeOk (a.length + b.length) = true then some (.own (.lst (a ++ b))) else none
  | .tup a, .tup b => if sizeOk (a.length + b.length) = true then some (.d (.tup (a ++ b))) else none
  | _, _ => none
def subW : D → D → Option W
  | .int a, .int b => some (.d (.int (a - b)))
  | _, _ => none
def bitsOk (a b : Int) : Bool := decide ((Builtin.Int.intBits a : Int) + (Builtin.Int.intBits b : Int) ≤ 134217728)
theorem bitsOk_le {a b : Int} (h : bitsOk a b = true) : (Builtin.Int.intBits a : Int) + (Builtin.Int.intBits b : Int) ≤ 134217728 := of_decide_eq_true h
def mulW : D → D → Option W
  | .int a, .int b => if bitsOk a b = true then some (.d (.int (a * b))) else none
  | .lst a, .int k => if (decide (-(2 ^ 63) ≤ k ∧ k < 2 ^ 63) && sizeOk (a.length * k.toNat)) = true then some (.own (.lst (List.replicate k.toNat a).flatten)) else none
  | .tup a, .int k => if decide (-1000 ≤ k ∧ k ≤ 1000 ∧ a.length ≤ 1000 ∧ (2 ≤ k → 0 < a.length)) = true then some (.d (.tup (List.replicate k.toNat a).flatten)) else none
  | _, _ => none
def fdivW : D → D → Option W
  | .int a, .int b => if (!decide (b = 0) && !Builtin.divisionGoesByPylong a b) = true then some (.d (.int (a.fdiv b))) else none
  | _, _ => none
def modW : D → D → Option W
  | .int a, .int b => if decide (b = 0) = true then none else some (.d (.int (a.fmod b)))
  | _, _ => none
def powW : D → D → Option W
  | .int a, .int b => if decide (0 ≤ b ∧ b ≤ 1000000 ∧ a.natAbs < 2 ^ 64) = true then some (.d (.int (a ^ b.toNat))) else none
  | _, _ => none
def binW : Operator → D → D → Option W
  | .Add => addW
  | .Sub => subW
  | .Mult => mulW
  | .FloorDiv => fdivW
  | .Mod => modW
  | .Pow => powW
  | _ => fun _ _ => none
section
variable {X : Cx} {Wx : WG} {e a b c : Expr} {pos : Pos} {m : M W} {ma mb mc : M A}
theorem op_addP : OpR X (binaryOp .Add) (rP2 X.K X.mg addW) := by
  intro pins s σ H x y v u Q I rx ry h
  obtain ⟨G, a, b, w, sub, ra, rb, e, k⟩ := h
  unfold addW at e
  split at e
  · have e' := Option.some.inj e
    subst e'
    cases (show x = .int _ from ra)
    cases (show y = .int _ from rb)
    exact op_add pins s σ H _ _ v u Q I rx ry ⟨_, _, rfl, rfl, k _ H G (Al.here sub rfl)⟩
  · split at e
    · rename_i hs
      have e' := Option.some.inj e
      subst e'
      cases (show x = .str _ from ra)
      cases (show y = .str _ from rb)
      exact op_add_str pins s σ H _ _ v u Q I rx ry ⟨_, _, rfl, rfl, sizeOk_le hs, k _ H G (Al.here sub rfl)⟩
    · cases e
  · split at e
    · rename_i hs
      have e' := Option.some.inj e
      subst e'
      obtain ⟨p, xs, ex, hp, rxs⟩ := ra
      obtain ⟨q, ys, ey, hq, rys⟩ := rb
      subst ex ey
      have l1 := rxs.length
      have l2 := rys.length
      exact op_cat pins s σ H _ _ v u Q I rx ry ⟨p, q, xs, ys, rfl, rfl, hp, hq, by rw [← l1, ← l2]; exact sizeOk_le hs, fun r hr => k _ _ _ (Al.lst sub hr (rxs.append rys))⟩
    · cases e
  · split at e
    · rename_i hs
      have e' := Option.some.inj e
      subst e'
      obtain ⟨p, xs, ex, hp, rxs⟩ := ra
      obtain ⟨q, ys, ey, hq, rys⟩ := rb
      subst ex ey
      have l1 := rxs.length
      have l2 := rys.length
      refine op_catA pins s σ H _ _ v u Q I rx ry ⟨p, q, xs, ys, rfl, rfl, sqT_mono sub hp, sqT_mono sub hq, by rw [← l1, ← l2]; exact sizeOk_le hs, fun z => ?_, fun z1 z2 => ?_, fun _ _ r hr => k _ _ _ (Al.tup sub hr (rxs.append rys))⟩
      · exact k _ H G (Al.here sub ⟨q, ys, rfl, hq, by have := rxs.append rys; rw [z] at this; exact this⟩)
      · exact k _ H G (Al.here sub ⟨p, xs, rfl, hp, by have := rxs.append rys; rw [z2, List.append_nil] at this; exact this⟩)
    · cases e
  · cases e
theorem op_subP : OpR X (binaryOp .Sub) (rP2 X.K X.mg subW) := by
  intro pins s σ H x y v u Q I rx ry h
  obtain ⟨G, a, b, w, sub, ra, rb, e, k⟩ := h
  unfold subW at e
  split at e
  · have e' := Option.some.inj e
    subst e'
    cases (show x = .int _ from ra)
    cases (show y = .int _ from rb)
    exact op_sub pins s σ H _ _ v u Q I rx ry ⟨_, _, rfl, rfl, k _ H G (Al.here sub rfl)⟩
  · cases e
theorem op_mulP : OpR X (binaryOp .Mult) (rP2 X.K X.mg mulW) := by
  intro pins s σ H x y v u Q I rx ry h
  obtain ⟨G, a, b, w, sub, ra, rb, e, k⟩ := h
  unfold mulW at e
  split at e
  · split at e
    · rename_i hs
      have e' := Option.some.inj e
      subst e'
      cases (show x = .int _ from ra)
      cases (show y = .int _ from rb)
      have hs' := bitsOk_le hs
      exact op_mulX pins s σ H _ _ v u Q I rx ry ⟨_, _, rfl, rfl, hs', k _ H G (Al.here sub rfl)⟩
    · cases e
  · split at e
    · rename_i hs
      have e' := Option.some.inj e
      subst e'
      rw [Bool.and_eq_true] at hs
      obtain ⟨h1, h2⟩ := hs
      obtain ⟨h3, h4⟩ := of_decide_eq_true h1
      obtain ⟨p, xs, ex, hp, rxs⟩ := ra
      subst ex
      cases (show y = .int _ from rb)
      have l1 := rxs.length
      have rep : ∀ n, RVs X.K X.mg G (List.replicate n _).flatten (List.replicate n xs).flatten := fun n => by
        induction n with
        | zero => exact rfl
        | succ n ih => rw [List.replicate_succ, List.replicate_succ, List.flatten_cons, List.flatten_cons]; exact rxs.append ih
      exact op_rep pins s σ H _ _ v u Q I rx ry ⟨p, _, xs, rfl, rfl, hp, h3, h4, by rw [← l1]; exact sizeOk_le h2, fun r hr => k _ _ _ (Al.lst sub hr (rep _))⟩
    · cases e
  · split at e
    · rename_i ds kk hs
      have e' := Option.some.inj e
      subst e'
      obtain ⟨h1, h2, h3, h4⟩ := of_decide_eq_true hs
      obtain ⟨p, xs, ex, hp, rxs⟩ := ra
      subst ex
      cases (show y = .int _ from rb)
      have l1 := rxs.length
      have rep : ∀ n, RVs X.K X.mg G (List.replicate n ds).flatten (List.replicate n xs).flatten := fun n => by
        induction n with
        | zero => exact rfl
        | succ n ih => rw [List.replicate_succ, List.replicate_succ, List.flatten_cons, List.flatten_cons]; exact rxs.append ih
      by_cases c : kk ≤ 1
      · refine op_repS pins s σ H _ _ v u Q I rx ry ⟨p, _, xs, rfl, rfl, sqT_mono sub hp, c, by omega, fun z => k _ H G (Al.here sub ⟨p, xs, rfl, hp, ?_⟩), fun z1 z2 q hq => ?_⟩
        · rcases z with z | z
          · subst z
            have d0 : ds = [] := by
              cases ds with
              | nil => rfl
              | cons a b => simp at l1
            rw [d0]
            have fl : ∀ n : Nat, (List.replicate n ([] : List D)).flatten = [] := fun n => by simp
            rw [fl]
            exact rfl
          · rw [z]
            have : (List.replicate (1 : Int).toNat ds).flatten = ds := by simp
            rw [this]
            exact rxs
        · have e0 : kk.toNat = 0 := by omega
          have := rep 0
          refine k _ _ _ (Al.tup sub hq ?_)
          rw [e0]
          exact this
      · by_cases cx : xs = []
        · subst cx
          have d0 : ds = [] := by
            cases ds with
            | nil => rfl
            | cons a b => simp at l1
          subst d0
          exact absurd (h4 (by omega)) (by simp)
        · exact op_repT pins s σ H _ _ v u Q I rx ry ⟨p, _, xs, rfl, rfl, sqT_mono sub hp, cx, by omega, h2, by rw [← l1]; exact h3, fun q hq => k _ _ _ (Al.tup sub hq (rep _))⟩
    · cases e
  · cases e
theorem op_fdivP : OpR X (binaryOp .FloorDiv) (rP2 X.K X.mg fdivW) := by
  intro pins s σ H x y v u Q I rx ry h
  obtain ⟨G, a, b, w, sub, ra, rb, e, k⟩ := h
  unfold fdivW at e
  split at e
  · split at e
    · rename_i i j hs
      have e' := Option.some.inj e
      subst e'
      rw [Bool.and_eq_true] at hs
      obtain ⟨h1, h2⟩ := hs
      have h1' : j ≠ 0 := by simpa using h1
      have h2' : Builtin.divisionGoesByPylong i j = false := by simpa using h2
      cases (show x = .int _ from ra)
      cases (show y = .int _ from rb)
      obtain ⟨t, rfl⟩ := rx
      obtain ⟨t', rfl⟩ := ry
      exact floordiv_int h1' ⟨.int (i.fdiv j), H, I.tok _, ⟨_, rfl⟩, k _ H G (Al.here sub rfl)⟩ (.inl h2')
    · cases e
  · cases e
theorem op_modP : OpR X (binaryOp .Mod) (rP2 X.K X.mg modW) := by
  intro pins s σ H x y v u Q I rx ry h
  obtain ⟨G, a, b, w, sub, ra, rb, e, k⟩ := h
  unfold modW at e
  split at e
  · split at e
    · cases e
    · rename_i hs
      have e' := Option.some.inj e
      subst e'
      cases (show x = .int _ from ra)
      cases (show y = .int _ from rb)
      exact op_modN pins s σ H _ _ v u Q I rx ry ⟨_, _, rfl, rfl, by simpa using hs, k _ H G (Al.here sub rfl)⟩
  · cases e
theorem op_powP : OpR X (binaryOp .Pow) (rP2 X.K X.mg powW) := by
  intro pins s σ H x y v u Q I rx ry h
  obtain ⟨G, a, b, w, sub, ra, rb, e, k⟩ := h
  unfold powW at e
  split at e
  · split at e
    · rename_i hs
      have e' := Option.some.inj e
      subst e'
      cases (show x = .int _ from ra)
      cases (show y = .int _ from rb)
      have hs' := of_decide_eq_true hs
      exact op_pow pins s σ H _ _ v u Q I rx ry ⟨_, _, rfl, rfl, hs', k _ H G (Al.here sub rfl)⟩
    · cases e
  · cases e
theorem op_binP : ∀ op : Operator, OpR X (binaryOp op) (rP2 X.K X.mg (binW op))
  | .Add => op_addP
  | .Sub => op_subP
  | .Mult => op_mulP
  | .FloorDiv => op_fdivP
  | .Mod => op_modP
  | .Pow => op_powP
  | .Div => fun _ _ _ _ _ _ _ _ _ _ _ _ ⟨_, _, _, _, _, _, _, e, _⟩ => nomatch e
  | .MatMult => fun _ _ _ _ _ _ _ _ _ _ _ _ ⟨_, _, _, _, _, _, _, e, _⟩ => nomatch e
  | .LShift => fun _ _ _ _ _ _ _ _ _ _ _ _ ⟨_, _, _, _, _, _, _, e, _⟩ => nomatch e
  | .RShift => fun _ _ _ _ _ _ _ _ _ _ _ _ ⟨_, _, _, _, _, _, _, e, _⟩ => nomatch e
  | .BitOr => fun _ _ _ _ _ _ _ _ _ _ _ _ ⟨_, _, _, _, _, _, _, e, _⟩ => nomatch e
  | .BitXor => fun _ _ _ _ _ _ _ _ _ _ _ _ ⟨_, _, _, _, _, _, _, e, _⟩ => nomatch e
  | .BitAnd => fun _ _ _ _ _ _ _ _ _ _ _ _ ⟨_, _, _, _, _, _, _, e, _⟩ => nomatch e
def binM (op : Operator) (ma mb : M A) : M W := fun ρ => (ma ρ).bind fun x ρ => (mb ρ).bind fun y ρ => op2 (binW op) x y ρ
/-- two operands, then an operation -/
theorem two_go {K : PySem.W.Frag} {mg : Str → Option Value} {ma mb : M A} {φ : D → D → Option W} {σ : St} {H : Hp} {Q : VK} (h : tM K mg Wx (fun ρ => (ma ρ).bind fun x ρ => (mb ρ).bind fun y ρ => op2 φ x y ρ) σ H Q) :
    tOp (rP2 K mg φ) (tA K mg Wx ma) (tA K mg Wx mb) σ H Q := by
  obtain ⟨ρ, G, R, h⟩ := h
  refine tA_mono (tA_bind R h) fun v H1 ⟨x, ρ1, G1, R1, rv, F1, k⟩ => ?_
  refine tA_mono (tA_bind R1 k) fun u H2 ⟨y, ρ2, G2, R2, ru, F2, k2⟩ => ?_
  exact op2_go R2 (rv.mono F2.grow) ru k2
theorem pm_bin {op : Operator} (ha : PMA X Wx a ma) (hb : PMA X Wx b mb) : PM X Wx (.BinOp a op b pos) (binM op ma mb) := peImp (pe_op (op_binP op) ha hb) fun σ H Q h => two_go h
def negW : D → Option W
  | .int a => some (.d (.int (-a)))
  | _ => none
theorem un_negP : UnR X (unaryOp .USub) (rP1 X.K X.mg negW) := by
  intro pins s σ H x v Q I rx h
  obtain ⟨G, a, w, sub, ra, e, k⟩ := h
  unfold negW at e
  split at e
  · have e' := Option.some.inj e
    subst e'
    cases (show x = .int _ from ra)
    exact un_neg pins s σ H _ v Q I rx ⟨_, rfl, k _ H G (Al.here sub rfl)⟩
  · cases e
theorem one_go {K : PySem.W.Frag} {mg : Str → Option Value} {ma : M A} {φ : D → Option W} {σ : St} {H : Hp} {Q : VK} (h : tM K mg Wx (fun ρ => (ma ρ).bind fun x ρ => op1 φ x ρ) σ H Q) :
    tUn (rP1 K mg φ) (tA K mg Wx ma) σ H Q := by
  obtain ⟨ρ, G, R, h⟩ := h
  refine tA_mono (tA_bind R h) fun v H1 ⟨x, ρ1, G1, R1, rv, F1, k⟩ => ?_
  exact op1_go R1 rv k
def negM (ma : M A) : M W := fun ρ => (ma ρ).bind fun x ρ => op1 negW x ρ
theorem pm_neg (ha : PMA X Wx a ma) : PM X Wx (.UnaryOp .USub a pos) (negM ma) := peImp (pe_un un_negP ha) fun σ H Q h => one_go h
def truD : D → Option Bool
  | .non => some false
  | .bl b => some b
  | .int i => some (i != 0)
  | .str x => if sizeOk x.length = true then some ((x.length : Int) != 0) else none
  | .tup xs => some (!xs.isEmpty)
  | .lst xs => some (!xs.isEmpty)
  | .dct xs => some (!xs.isEmpty)
  | _ => none
theorem RVs.isEmpty {K : PySem.W.Frag} {mg : Str → Option Value} {G : Hp} {ds : List D} {xs : List V} (r : RVs K mg G ds xs) : ds.isEmpty = xs.isEmpty := by
  have := r.length
  cases ds with
  | nil =>
    cases xs with
    | nil => rfl
    | cons _ _ => simp at this
  | cons _ _ =>
    cases xs with
    | nil => simp at this
    | cons _ _ => rfl
theorem RKs.isEmpty {K : PySem.W.Frag} {mg : Str → Option Value} {G : Hp} {ds : List (Key × D)} {xs : List (Key × V)} (r : RKs K mg G ds xs) : ds.isEmpty = xs.isEmpty := by
  have := r.length
  cases ds with
  | nil =>
    cases xs with
    | nil => rfl
    | cons _ _ => simp at this
  | cons _ _ =>
    cases xs with
    | nil => simp at this
    | cons _ _ => rfl
theorem truD_ok {K : PySem.W.Frag} {mg : Str → Option Value} {H G : Hp} {d : D} {v : V} {k : Bool} (sub : SubH G H) (r : RH K mg H G d v) (e : truD d = some k) : TruV K v H k := by
  unfold truD at e
  split at e
  · cases e; cases (show v = .non from r); exact rfl
  · cases e; cases (show v = .bl _ from r); exact rfl
  · cases e; cases (show v = .int _ from r); exact rfl
  · split at e
    · rename_i hs
      cases e; cases (show v = .str _ from r); exact ⟨sizeOk_le hs, rfl⟩
    · cases e
  · cases e; obtain ⟨a, xs, rfl, q, t⟩ := r; exact .inr (.inl ⟨xs, sqT_mono sub q, by rw [t.isEmpty]⟩)
  · cases e; obtain ⟨a, xs, rfl, q, t⟩ := r; exact .inl ⟨xs, SqL.of q, by rw [t.isEmpty]⟩
  · cases e; obtain ⟨a, xs, rfl, q, t⟩ := r; exact .inr (.inr ⟨xs, q, by rw [t.isEmpty]⟩)
  · cases e
def truA (x : A) : M Bool := fun ρ => match x.res ρ with
  | some a => liftM (truD a) ρ
  | none => .bad
def testM (ma : M A) : M Bool := fun ρ => (ma ρ).bind truA
/-- an expression as a test -/
theorem pmb_truth (ha : PMA X Wx a ma) (he : ∀ whole, isTrue a X.env whole = (do let v ← whole; standAt a.pos; holding [v] (truthy v))) : PMB X Wx a (testM ma) := by
  refine ptImp (pt_truth ha he) fun σ H Q h => ?_
  obtain ⟨ρ, G, R, h⟩ := h
  refine tA_mono (tA_bindB R h) fun v H1 ⟨x, ρ1, G1, R1, rv, F1, k⟩ => ?_
  unfold truA at k
  split at k
  · rename_i d ed
    unfold liftM at k
    split at k
    · rename_i bb eb
      exact ⟨bb, truD_ok R1.sub (rv.read R1 ed) eb, k H1 G1 R1 Fr.refl⟩
    · exact k.elim
  · exact k.elim
def notM (ma : M A) : M W := fun ρ => (ma ρ).bind fun x ρ => (truA x ρ).bind fun b ρ => .ok (.d (.bl (!b))) ρ
theorem pm_not (ha : PMA X Wx a ma) : PM X Wx (.UnaryOp .Not a pos) (notM ma) := by
  refine peImp (pe_notT ha) fun σ H Q h => ?_
  obtain ⟨ρ, G, R, h⟩ := h
  refine tA_mono (tA_bind R h) fun v H1 ⟨x, ρ1, G1, R1, rv, F1, k⟩ => ?_
  unfold truA at k
  split at k
  · rename_i d ed
    unfold liftM at k
    split at k
    · rename_i bb eb
      exact ⟨bb, truD_ok R1.sub (rv.read R1 ed) eb, k _ H1 G1 R1 Fr.refl ⟨rfl, fun _ _ z => nomatch z⟩⟩
    · exact k.elim
  · exact k.elim
def notB (m : M Bool) : M Bool := fun ρ => (m ρ).bind fun b ρ => .ok (!b) ρ
def andB (m n : M Bool) : M Bool := fun ρ => (m ρ).bind fun b ρ => if b = true then n ρ else .ok false ρ
def orB (m n : M Bool) : M Bool := fun ρ => (m ρ).bind fun b ρ => if b = true then .ok true ρ else n ρ
theorem tB2_bindB {K : PySem.W.Frag} {mg : Str → Option Value} {m : M Bool} {f : Bool → M Bool} {σ : St} {ρ : Rho} {H G : Hp} {Q : Bool → Hp → Prop} (R : Rel K mg Wx.fl σ ρ H G) (h : GoB K mg Wx σ ρ H G ((m ρ).bind f) Q) :
    tB2 K mg Wx m σ H fun b H1 => ∃ ρ1 G1, Rel K mg Wx.fl σ ρ1 H1 G1 ∧ Fr [] σ ρ H G σ ρ1 H1 G1 ∧ GoB K mg Wx σ ρ1 H1 G1 (f b ρ1) Q := by
  refine ⟨ρ, G, R, ?_⟩
  cases e : m ρ with
  | ok w ρ1 => rw [e] at h; exact fun H' G' R' F' => ⟨ρ1, G', R', F', GoB.shift F' h⟩
  | exc c fs ρ1 => rw [e] at h; exact h
  | bad => rw [e] at h; exact h.elim
theorem tB2_bindE {K : PySem.W.Frag} {mg : Str → Option Value} {m : M Bool} {f : Bool → M W} {σ : St} {ρ : Rho} {H G : Hp} {Q : VK} (R : Rel K mg Wx.fl σ ρ H G) (h : GoE K mg Wx σ ρ H G ((m ρ).bind f) Q) :
    tB2 K mg Wx m σ H fun b H1 => ∃ ρ1 G1, Rel K mg Wx.fl σ ρ1 H1 G1 ∧ Fr [] σ ρ H G σ ρ1 H1 G1 ∧ GoE K mg Wx σ ρ1 H1 G1 (f b ρ1) Q := by
  refine ⟨ρ, G, R, ?_⟩
  cases e : m ρ with
  | ok w ρ1 => rw [e] at h; exact fun H' G' R' F' => ⟨ρ1, G', R', F', GoE.shift F' h⟩
  | exc c fs ρ1 => rw [e] at h; exact h
  | bad => rw [e] at h; exact h.elim
/-- a test whatever its whole is -/
abbrev PWB (X : Cx) (Wx : WG) (e : Expr) (m : M Bool) : Prop := PW X e (tB2 X.K X.mg Wx m)
theorem pwImp {e : Expr} {u u' : TT} (h : PW X e u) (w : ∀ σ H Q, u' σ H Q → u σ H Q) : PW X e u' := ⟨fun wh pins s σ H Q I q => h.run wh pins s σ H Q I (w σ H Q q)⟩
theorem pmb_not {m : M Bool} (h : PMB X Wx a m) : PMB X Wx (.UnaryOp .Not a pos) (notB m) := by
  refine ptImp (pt_not h) fun σ H Q h => ?_
  obtain ⟨ρ, G, R, h⟩ := h
  exact tB2_mono (tB2_bindB R h) fun b H1 ⟨ρ1, G1, R1, F1, k⟩ => k H1 G1 R1 Fr.refl
theorem pwb_and1 {m : M Bool} (h : PMB X Wx a m) : PWB X Wx (.BoolOp .And [a] pos) m := pw_and1 h
theorem pwb_or1 {m : M Bool} (h : PMB X Wx a m) : PWB X Wx (.BoolOp .Or [a] pos) m := pw_or1 h
theorem pwb_and {m n : M Bool} {rest : List Expr} (h : PMB X Wx a m) (t : PWB X Wx (.BoolOp .And (b :: rest) pos) n) : PWB X Wx (.BoolOp .And (a :: b :: rest) pos) (andB m n) := by
  refine pwImp (pw_and h t) fun σ H Q h => ?_
  obtain ⟨ρ, G, R, h⟩ := h
  refine tB2_mono (tB2_bindB R h) fun c H1 ⟨ρ1, G1, R1, F1, k⟩ => ?_
  cases c with
  | true => exact iteT ⟨ρ1, G1, R1, k⟩
  | false => exact iteF (k H1 G1 R1 Fr.refl)
theorem pwb_or {m n : M Bool} {rest : List Expr} (h : PMB X Wx a m) (t : PWB X Wx (.BoolOp .Or (b :: rest) pos) n) : PWB X Wx (.BoolOp .Or (a :: b :: rest) pos) (orB m n) := by
  refine pwImp (pw_or h t) fun σ H Q h => ?_
  obtain ⟨ρ, G, R, h⟩ := h
  refine tB2_mono (tB2_bindB R h) fun c H1 ⟨ρ1, G1, R1, F1, k⟩ => ?_
  cases c with
  | true => exact iteT (k H1 G1 R1 Fr.refl)
  | false => exact iteF ⟨ρ1, G1, R1, k⟩
/-- and, or as values -/
def orM (m n : M W) : M W := fun ρ => (m ρ).dat fun x ρ => match truD x with
  | some true => .ok (.d x) ρ
  | some false => n ρ
  | none => .bad
def andM (m n : M W) : M W := fun ρ => (m ρ).dat fun x ρ => match truD x with
  | some true => n ρ
  | some false => .ok (.d x) ρ
  | none => .bad
theorem pm_one {op : BoolOp} (h : PM X Wx a m) : PM X Wx (.BoolOp op [a] pos) m := pe_one h
theorem pm_or {n : M W} {rest : List Expr} (h : PM X Wx a m) (t : PM X Wx (.BoolOp .Or (b :: rest) pos) n) : PM X Wx (.BoolOp .Or (a :: b :: rest) pos) (orM m n) := by
  refine peImp (pe_orT h t) fun σ H Q h => ?_
  obtain ⟨ρ, G, R, h⟩ := h
  refine tM_mono (tM_dat R h) fun v H1 ⟨x, ρ1, G1, R1, rv, F1, k⟩ => ?_
  split at k
  · rename_i e
    exact ⟨true, truD_ok R1.sub (RH.of R1.sub rv) e, iteT (k v H1 G1 R1 Fr.refl ⟨rv, fun _ _ z => nomatch z⟩)⟩
  · rename_i e
    exact ⟨false, truD_ok R1.sub (RH.of R1.sub rv) e, iteF ⟨ρ1, G1, R1, k⟩⟩
  · exact k.elim
theorem pm_and {n : M W} {rest : List Expr} (h : PM X Wx a m) (t : PM X Wx (.BoolOp .And (b :: rest) pos) n) : PM X Wx (.BoolOp .And (a :: b :: rest) pos) (andM m n) := by
  refine peImp (pe_andT h t) fun σ H Q h => ?_
  obtain ⟨ρ, G, R, h⟩ := h
  refine tM_mono (tM_dat R h) fun v H1 ⟨x, ρ1, G1, R1, rv, F1, k⟩ => ?_
  split at k
  · rename_i e
    exact ⟨true, truD_ok R1.sub (RH.of R1.sub rv) e, iteT ⟨ρ1, G1, R1, k⟩⟩
  · rename_i e
    exact ⟨false, truD_ok R1.sub (RH.of R1.sub rv) e, iteF (k v H1 G1 R1 Fr.refl ⟨rv, fun _ _ z => nomatch z⟩)⟩
  · exact k.elim
/-- a if t else b -/
def ifM (t : M Bool) (m n : M W) : M W := fun ρ => (t ρ).bind fun b ρ => if b = true then m ρ else n ρ
theorem pm_if {t : M Bool} {n : M W} (ht : PMB X Wx c t) (ha : PM X Wx a m) (hb : PM X Wx b n) : PM X Wx (.IfExp c a b pos) (ifM t m n) := by
  refine peImp (pe_ifExp ht ha hb) fun σ H Q h => ?_
  obtain ⟨ρ, G, R, h⟩ := h
  refine tB2_mono (tB2_bindE R h) fun k H1 ⟨ρ1, G1, R1, F1, g⟩ => ?_
  cases k with
  | true => exact iteT ⟨ρ1, G1, R1, g⟩
  | false => exact iteF ⟨ρ1, G1, R1, g⟩
def tupM (m : M (List D)) : M W := fun ρ => (m ρ).bind fun ds ρ => if sizeOk ds.length = true then .ok (.d (.tup ds)) ρ else .bad
def lstM (m : M (List D)) : M W := fun ρ => (m ρ).bind fun ds ρ => if sizeOk ds.length = true then .ok (.own (.lst ds)) ρ else .bad
theorem pm_tup {es : List Expr} {m : M (List D)} {k : Nat} (h : PML X Wx es m) : PM X Wx (.Tuple es k pos) (tupM m) := by
  refine peImp (pe_tup h) fun σ H Q h => ?_
  obtain ⟨ρ, G, R, h⟩ := h
  refine tL_mono (tL_bind R h) fun vs H1 ⟨ds, ρ1, G1, R1, rv, F1, k⟩ => ?_
  split at k
  · rename_i hs
    exact ⟨by rw [← rv.length]; exact sizeOk_le hs, fun p hp => GoE.al R1 (Al.tup R1.sub hp rv) k⟩
  · exact k.elim
theorem pm_lst {es : List Expr} {m : M (List D)} (h : PML X Wx es m) : PM X Wx (.List es pos) (lstM m) := by
  refine peImp (pe_lst h) fun σ H Q h => ?_
  obtain ⟨ρ, G, R, h⟩ := h
  refine tL_mono (tL_bind R h) fun vs H1 ⟨ds, ρ1, G1, R1, rv, F1, k⟩ => ?_
  split at k
  · rename_i hs
    exact ⟨by rw [← rv.length]; exact sizeOk_le hs, fun p hp => GoE.al R1 (Al.lst R1.sub hp rv) k⟩
  · exact k.elim
def dct0M : M W := fun ρ => .ok (.own (.dct [])) ρ
theorem pm_dct0 : PM X Wx (.Dict [] [] pos) dct0M := by
  refine peImp pe_dnewK fun σ H Q h => ?_
  obtain ⟨ρ, G, R, h⟩ := h
  exact fun p hp => GoE.al R (Al.dct (ds := []) R.sub hp rfl) h
end
end FL
set_option Elab.async false
set_option linter.all false
set_option maxRecDepth 100000
set_option maxHeartbeats 2000000
namespace FL
open PySem PySem.Spec L2
open PyProof.Rows hiding St
def keyPy : Key → PyData
  | .inl i => .int i
  | .inr x => .str x
mutual
def toPy : D → Option PyData
  | .non => some .none
  | .bl b => some (.bool b)
  | .int i => some (.int i)
  | .str x => some (.str x)
  | .tup xs => (toPys xs).map .tuple
  | .lst xs => (toPys xs).map .list
  | .dct kvs => (toPyk kvs).map .dict
  | _ => none
def toPys : List D → Option (List PyData)
  | [] => some []
  | d :: ds => match toPy d, toPys ds with
    | some p, some ps => some (p :: ps)
    | _, _ => none
def toPyk : List (Key × D) → Option (List (PyData × PyData))
  | [] => some []
  | (k, d) :: ds => match toPy d, toPyk ds with
    | some p, some ps => some ((keyPy k, p) :: ps)
    | _, _ => none
end
mutual
/-- no list within -/
def noLst : PyData → Bool
  | .list _ => false
  | .tuple xs => noLsts xs
  | .dict kvs => noLstk kvs
  | _ => true
def noLsts : List PyData → Bool
  | [] => true
  | x :: xs => noLst x && noLsts xs
def noLstk : List (PyData × PyData) → Bool
  | [] => true
  | (_, x) :: xs => noLst x && noLstk xs
end
theorem toPys_cons {d : D} {ds : List D} {ps : List PyData} (h : toPys (d :: ds) = some ps) : ∃ p qs, ps = p :: qs ∧ toPy d = some p ∧ toPys ds = some qs := by
  unfold toPys at h
  split at h
  · rename_i p qs e1 e2
    exact ⟨p, qs, (Option.some.inj h).symm, e1, e2⟩
  · cases h
theorem toPyk_cons {k : Key} {d : D} {ds : List (Key × D)} {ps : List (PyData × PyData)} (h : toPyk ((k, d) :: ds) = some ps) : ∃ p qs, ps = (keyPy k, p) :: qs ∧ toPy d = some p ∧ toPyk ds = some qs := by
  unfold toPyk at h
  split at h
  · rename_i p qs e1 e2
    exact ⟨p, qs, (Option.some.inj h).symm, e1, e2⟩
  · cases h
section
variable {X : Cx} {pins : List (Addr × Obj)} {σ : St} {H G : Hp} {s : Shared}
theorem keys_read : ∀ {es : List DictEntry} {kvs : List (Key × Value)}, Pairs (mixKind X.prog X.w) es kvs → ∃ as, ReadsAll s.heap (es.map (·.key)) (kvs.map fun p => keyPy p.1) as ∧ as = []
  | _, _, .nil => ⟨_, ReadsAll.nil, rfl⟩
  | _, _, .cons (e := e) (kv := kv) hk _ t => by
    obtain ⟨as, r, ea⟩ := keys_read t
    rcases keyIs_shape (k := kv.1) (v := e.key) hk with ⟨i, t', h1, h2⟩ | ⟨z, t', h1, h2⟩
    · refine ⟨[] ++ as, ReadsAll.cons ?_ r, by rw [ea]; rfl⟩
      show Reads s.heap e.key (keyPy kv.1) []
      rw [h2, h1]
      exact Reads.int i t'
    · refine ⟨[] ++ as, ReadsAll.cons ?_ r, by rw [ea]; rfl⟩
      show Reads s.heap e.key (keyPy kv.1) []
      rw [h2, h1]
      exact Reads.str z t'
mutual
theorem RV.reads (I : Inv X pins σ H s) (sub : SubH G H) : ∀ (d : D) (p : PyData) (v : V) (u : Value), toPy d = some p → RV X.K X.mg G d v → RelV v u → ∃ as, Reads s.heap u p as ∧ (noLst p = true → sysModules ∉ as)
  | .non, p, v, u, e, r, q => by
    have e' : PyData.none = p := Option.some.inj e
    subst e'
    cases (show v = .non from r)
    cases q
    exact ⟨_, Reads.none, fun _ z => nomatch z⟩
  | .bl b, p, v, u, e, r, q => by
    have e' : PyData.bool b = p := Option.some.inj e
    subst e'
    cases (show v = .bl b from r)
    cases q
    exact ⟨_, Reads.bool b, fun _ z => nomatch z⟩
  | .int i, p, v, u, e, r, q => by
    have e' : PyData.int i = p := Option.some.inj e
    subst e'
    cases (show v = .int i from r)
    obtain ⟨t, rfl⟩ := q
    exact ⟨_, Reads.int i t, fun _ z => nomatch z⟩
  | .str x, p, v, u, e, r, q => by
    have e' : PyData.str x = p := Option.some.inj e
    subst e'
    cases (show v = .str x from r)
    obtain ⟨t, rfl⟩ := q
    exact ⟨_, Reads.str x t, fun _ z => nomatch z⟩
  | .tup ds, p, v, u, e, r, q => by
    obtain ⟨ps, e1, e2⟩ := Option.map_eq_some_iff.mp (show (toPys ds).map PyData.tuple = some p from e)
    subst e2
    obtain ⟨a, xs, rfl, hq, rs⟩ := r
    cases q
    obtain ⟨its, rv, ⟨o, ho, hc, n, hd⟩, _⟩ := I.tuple (sqT_mono sub hq)
    obtain ⟨as, hr, hn⟩ := RVs.reads I sub ds ps xs its e1 rs rv
    exact ⟨_, Reads.tuple ho hc hd hr, hn⟩
  | .lst ds, p, v, u, e, r, q => by
    obtain ⟨ps, e1, e2⟩ := Option.map_eq_some_iff.mp (show (toPys ds).map PyData.list = some p from e)
    subst e2
    obtain ⟨a, xs, rfl, hq, rs⟩ := r
    cases q
    obtain ⟨its, rv, ⟨o, n, ho, hc, _, hd⟩, _⟩ := I.list (SqL.of (sub _ _ hq))
    obtain ⟨as, hr, hn⟩ := RVs.reads I sub ds ps xs its e1 rs rv
    exact ⟨_, Reads.list ho hc hd hr, fun z => nomatch z⟩
  | .dct kvs, p, v, u, e, r, q => by
    obtain ⟨ps, e1, e2⟩ := Option.map_eq_some_iff.mp (show (toPyk kvs).map PyData.dict = some p from e)
    subst e2
    obtain ⟨a, ks, rfl, hq, rs⟩ := r
    cases q
    obtain ⟨_, hsys, vs, kv, o, es, ep, ho, hx, hd, _, hp, _⟩ := dk_rd I.hok (.inl (sub _ _ hq))
    obtain ⟨bs, hb, eb⟩ := keys_read (s := s) hp
    obtain ⟨as, hk, hr, hn⟩ := RKs.reads I sub kvs ps ks vs es.toList e1 rs kv hp bs hb
    refine ⟨_, Reads.dict ho hx.1 hd hk hr, fun z => ?_⟩
    subst eb
    intro hm
    rcases List.mem_append.mp hm with hm | hm
    · rcases List.mem_cons.mp hm with hm | hm
      · rw [← hm] at hsys
        simp at hsys
      · exact nomatch hm
    · exact hn z hm
  | .ty _, _, _, _, e, _, _ => nomatch e
  | .obj _ _, _, _, _, e, _, _ => nomatch e
  | .fn _, _, _, _, e, _, _ => nomatch e
  | .scr _, _, _, _, e, _, _ => nomatch e
theorem RVs.reads (I : Inv X pins σ H s) (sub : SubH G H) : ∀ (ds : List D) (ps : List PyData) (vs : List V) (us : List Value), toPys ds = some ps → RVs X.K X.mg G ds vs → Vals vs us → ∃ as, ReadsAll s.heap us ps as ∧ (noLsts ps = true → sysModules ∉ as)
  | [], ps, vs, us, e, r, q => by
    have e' : ([] : List PyData) = ps := Option.some.inj e
    subst e'
    cases (show vs = [] from r)
    cases q
    exact ⟨_, ReadsAll.nil, fun _ z => nomatch z⟩
  | d :: ds, ps, vs, us, e, r, q => by
    obtain ⟨p, qs, e0, e1, e2⟩ := toPys_cons e
    subst e0
    obtain ⟨y, ys, rfl, ry, rys⟩ := r
    cases q with
    | cons q1 q2 =>
      obtain ⟨as, h1, n1⟩ := RV.reads I sub d p y _ e1 ry q1
      obtain ⟨bs, h2, n2⟩ := RVs.reads I sub ds qs ys _ e2 rys q2
      refine ⟨_, ReadsAll.cons h1 h2, fun z => ?_⟩
      have z' : noLst p = true ∧ noLsts qs = true := by simpa [noLsts] using z
      intro hm
      exact (List.mem_append.mp hm).elim (n1 z'.1) (n2 z'.2)
theorem RKs.reads (I : Inv X pins σ H s) (sub : SubH G H) : ∀ (ds : List (Key × D)) (ps : List (PyData × PyData)) (vs : List (Key × V)) (us : List (Key × Value)) (es : List DictEntry), toPyk ds = some ps → RKs X.K X.mg G ds vs → KV vs us → Pairs (mixKind X.prog X.w) es us →
    ∀ bs, ReadsAll s.heap (es.map (·.key)) (us.map fun p => keyPy p.1) bs → ∃ as, ReadsAll s.heap (es.map (·.key)) (ps.map (·.1)) bs ∧ ReadsAll s.heap (es.map (·.val)) (ps.map (·.2)) as ∧ (noLstk ps = true → sysModules ∉ as)
  | [], ps, vs, us, es, e, r, q, w, bs, hb => by
    have e' : ([] : List (PyData × PyData)) = ps := Option.some.inj e
    subst e'
    cases (show vs = [] from r)
    cases q
    cases w
    exact ⟨[], hb, ReadsAll.nil, fun _ z => nomatch z⟩
  | (k, d) :: ds, ps, vs, us, es, e, r, q, w, bs, hb => by
    obtain ⟨p, qs, e0, e1, e2⟩ := toPyk_cons e
    subst e0
    obtain ⟨y, ys, rfl, ry, rys⟩ := r
    cases q with
    | cons q1 q2 =>
      cases w with
      | cons w1 w2 w3 =>
        cases hb with
        | cons b1 b2 =>
          obtain ⟨as, h1, h2, n2⟩ := RKs.reads I sub ds qs ys _ _ e2 rys q2 w3 _ b2
          obtain ⟨as1, g1, n1⟩ := RV.reads I sub d p y _ e1 ry q1.2
          refine ⟨as1 ++ as, ReadsAll.cons (d := keyPy k) ?_ h1, ReadsAll.cons (d := p) ?_ h2, fun z => ?_⟩
          · have b2' : Reads s.heap _ (keyPy _) _ := b1
            rw [← q1.1] at b2'
            exact b2'
          · show Reads s.heap (DictEntry.val _) p as1
            rw [w2]
            exact g1
          · have z' : noLst p = true ∧ noLstk qs = true := by simpa [noLstk] using z
            intro hm
            exact (List.mem_append.mp hm).elim (n1 z'.1) (n2 z'.2)
end
/-- an own object too -/
theorem RH.reads (I : Inv X pins σ H s) (sub : SubH G H) {d : D} {p : PyData} {v : V} {u : Value} (e : toPy d = some p) (r : RH X.K X.mg H G d v) (q : RelV v u) : ∃ as, Reads s.heap u p as ∧ (noLst p = true → sysModules ∉ as) := by
  cases d with
  | lst ds =>
    obtain ⟨ps, e1, e2⟩ := Option.map_eq_some_iff.mp (show (toPys ds).map PyData.list = some p from e)
    subst e2
    obtain ⟨a, xs, rfl, hq, rs⟩ := r
    cases q
    obtain ⟨its, rv, ⟨o, n, ho, hc, _, hd⟩, _⟩ := I.list (SqL.of hq)
    obtain ⟨as, hr, hn⟩ := RVs.reads I sub ds ps xs its e1 rs rv
    exact ⟨_, Reads.list ho hc hd hr, fun z => nomatch z⟩
  | dct kvs =>
    obtain ⟨ps, e1, e2⟩ := Option.map_eq_some_iff.mp (show (toPyk kvs).map PyData.dict = some p from e)
    subst e2
    obtain ⟨a, ks, rfl, hq, rs⟩ := r
    cases q
    obtain ⟨_, hsys, vs, kv, o, es, ep, ho, hx, hd, _, hp, _⟩ := dk_rd I.hok (.inl hq)
    obtain ⟨bs, hb, eb⟩ := keys_read (s := s) hp
    obtain ⟨as, hk, hr, hn⟩ := RKs.reads I sub kvs ps ks vs es.toList e1 rs kv hp bs hb
    refine ⟨_, Reads.dict ho hx.1 hd hk hr, fun z => ?_⟩
    subst eb
    intro hm
    rcases List.mem_append.mp hm with hm | hm
    · rcases List.mem_cons.mp hm with hm | hm
      · rw [← hm] at hsys
        simp at hsys
      · exact nomatch hm
    · exact hn z hm
  | non => exact RV.reads I sub _ p v u e r q
  | bl _ => exact RV.reads I sub _ p v u e r q
  | int _ => exact RV.reads I sub _ p v u e r q
  | str _ => exact RV.reads I sub _ p v u e r q
  | tup _ => exact RV.reads I sub _ p v u e r q
  | ty _ => exact nomatch e
  | obj _ _ => exact nomatch e
  | fn _ => exact nomatch e
  | scr _ => exact nomatch e
  | clo _ _ => exact nomatch e
  | ldc _ => exact nomatch e
end
def eqW : D → D → Option W := fun a b => match toPy a, toPy b with
  | some p, some q => if (SeqAt.shaped p && SeqAt.shaped q) = true then some (.d (.bl (PyData.eqv p q))) else none
  | _, _ => none
def neW : D → D → Option W := fun a b => match toPy a, toPy b with
  | some p, some q => if (SeqAt.shaped p && SeqAt.shaped q) = true then some (.d (.bl (!PyData.eqv p q))) else none
  | _, _ => none
def ordW (f : Int → Int → Bool) : D → D → Option W
  | .int a, .int b => some (.d (.bl (f a b)))
  | _, _ => none
def isW (neg : Bool) : D → D → Option W
  | .bl a, .bl b => some (.d (.bl (neg ^^ decide (a = b))))
  | .non, .non => some (.d (.bl (neg ^^ true)))
  | .bl _, .non => some (.d (.bl (neg ^^ false)))
  | .int _, .non => some (.d (.bl (neg ^^ false)))
  | .str _, .non => some (.d (.bl (neg ^^ false)))
  | .tup _, .non => some (.d (.bl (neg ^^ false)))
  | .lst _, .non => some (.d (.bl (neg ^^ false)))
  | .dct _, .non => some (.d (.bl (neg ^^ false)))
  | .obj _ _, .non => some (.d (.bl (neg ^^ false)))
  | _, _ => none
/-- flat data -/
def flatD : D → Option V
  | .non => some .non
  | .bl b => some (.bl b)
  | .int i => some (.int i)
  | .str x => some (.str x)
  | _ => none
def flatDs : List D → Option (List V)
  | [] => some []
  | d :: ds => match flatD d, flatDs ds with
    | some v, some vs => some (v :: vs)
    | _, _ => none
def keyD : D → Option Key
  | .int i => some (.inl i)
  | .str x => some (.inr x)
  | _ => none
def findK : List (Key × D) → Key → Option D
  | [], _ => none
  | (k, d) :: r, y => if k = y then some d else findK r y
def inW (neg : Bool) : D → D → Option W
  | x, .tup ds => match flatD x, flatDs ds with
    | some v, some vs => some (.d (.bl (neg ^^ inV v vs)))
    | _, _ => none
  | x, .lst ds => match flatD x, flatDs ds with
    | some v, some vs => some (.d (.bl (neg ^^ inV v vs)))
    | _, _ => match toPy x, toPys ds with
      | some p, some ps => if (SeqAt.shaped p && SeqAt.shaped (.list ps)) = true then some (.d (.bl (neg ^^ (ps.any fun z => PyData.eqv z p)))) else none
      | _, _ => none
  | x, .dct kvs => match keyD x with
    | some k => some (.d (.bl (neg ^^ (findK kvs k).isSome)))
    | none => none
  | .str x, .str y => some (.d (.bl (neg ^^ !(Builtin.Str.occurrences y x 0 y.length 1).isEmpty)))
  | _, _ => none
def cmpW : CmpOp → D → D → Option W
  | .Eq => eqW
  | .NotEq => neW
  | .Lt => ordW fun i j => decide (i < j)
  | .LtE => ordW fun i j => decide (i ≤ j)
  | .Gt => ordW fun i j => decide (j < i)
  | .GtE => ordW fun i j => decide (j ≤ i)
  | .Is => isW false
  | .IsNot => isW true
  | .In => inW false
  | .NotIn => inW true
section
variable {K : PySem.W.Frag} {mg : Str → Option Value} {H G : Hp}
theorem flatD_ok {d : D} {v w : V} (e : flatD d = some w) (r : RH K mg H G d v) : v = w ∧ flatV v = true := by
  unfold flatD at e
  split at e
  · cases e; cases (show v = .non from r); exact ⟨rfl, rfl⟩
  · cases e; cases (show v = .bl _ from r); exact ⟨rfl, rfl⟩
  · cases e; cases (show v = .int _ from r); exact ⟨rfl, rfl⟩
  · cases e; cases (show v = .str _ from r); exact ⟨rfl, rfl⟩
  · cases e
theorem flatDs_ok (sub : SubH G H) : ∀ {ds : List D} {vs ws : List V}, flatDs ds = some ws → RVs K mg G ds vs → vs = ws ∧ vs.all flatV = true
  | [], vs, ws, e, r => by
    have e' : ([] : List V) = ws := Option.some.inj e
    subst e'
    cases (show vs = [] from r)
    exact ⟨rfl, rfl⟩
  | d :: ds, vs, ws, e, ⟨y, ys, ey, ry, rys⟩ => by
    unfold flatDs at e
    split at e
    · rename_i w ws' e1 e2
      have e' := Option.some.inj e
      subst e' ey
      obtain ⟨h1, h2⟩ := flatD_ok e1 (RH.of sub ry)
      obtain ⟨h3, h4⟩ := flatDs_ok sub e2 rys
      subst h1 h3
      exact ⟨rfl, by simp [h2]; simpa using h4⟩
    · cases e
theorem keyD_ok {d : D} {v : V} {k : Key} (e : keyD d = some k) (r : RH K mg H G d v) : v = kV k := by
  unfold keyD at e
  split at e
  · cases e; exact r
  · cases e; exact r
  · cases e
theorem findK_ok : ∀ {ds : List (Key × D)} {vs : List (Key × V)} {k : Key}, RKs K mg G ds vs → match findK ds k with
    | some d => ∃ v, valV vs k = some v ∧ RV K mg G d v
    | none => valV vs k = none
  | [], vs, k, r => by cases (show vs = [] from r); rfl
  | (k', d) :: ds, vs, k, ⟨y, ys, e, r, t⟩ => by
    subst e
    have ih := findK_ok (k := k) t
    have hv : valV ((k', y) :: ys) k = if k' = k then some y else valV ys k := by
      unfold valV
      rw [List.find?_cons]
      by_cases h : k' = k
      · simp [h]
      · simp [h]
    unfold findK
    rw [hv]
    by_cases h : k' = k
    · rw [if_pos h, if_pos h]
      exact ⟨y, rfl, r⟩
    · rw [if_neg h, if_neg h]
      exact ih
end
section
variable {X : Cx} {Wx : WG} {e a b c : Expr} {pos : Pos} {m : M W} {ma mb mc : M A}
theorem op_eqP (hu : X.A.units + 64 < cLine) : OpR X (compareOp .Eq) (rP2 X.K X.mg eqW) := by
  intro pins s σ H x y v u Q I rx ry h
  obtain ⟨G, a, b, w, sub, ra, rb, e, k⟩ := h
  unfold eqW at e
  split at e
  · rename_i p q ep eq
    split at e
    · rename_i hs
      rw [Bool.and_eq_true] at hs
      have e' := Option.some.inj e
      subst e'
      obtain ⟨as, r1, _⟩ := RH.reads I sub ep ra rx
      obtain ⟨bs, r2, _⟩ := RH.reads I sub eq rb ry
      exact SeqAt.compareEq_shaped r1 r2 hs.1 hs.2 hu ⟨.bl _, H, I, rfl, k _ H G (Al.here sub rfl)⟩
    · cases e
  · cases e
theorem op_neP (hu : X.A.units + 64 < cLine) : OpR X (compareOp .NotEq) (rP2 X.K X.mg neW) := by
  intro pins s σ H x y v u Q I rx ry h
  obtain ⟨G, a, b, w, sub, ra, rb, e, k⟩ := h
  unfold neW at e
  split at e
  · rename_i p q ep eq
    split at e
    · rename_i hs
      rw [Bool.and_eq_true] at hs
      have e' := Option.some.inj e
      subst e'
      obtain ⟨as, r1, _⟩ := RH.reads I sub ep ra rx
      obtain ⟨bs, r2, _⟩ := RH.reads I sub eq rb ry
      exact SeqAt.compareNe_shaped r1 r2 hs.1 hs.2 hu ⟨.bl _, H, I, rfl, k _ H G (Al.here sub rfl)⟩
    · cases e
  · cases e
theorem op_ordP {op : CmpOp} {f : Int → Int → Bool} (h0 : OpR X (compareOp op) (rI0 fun i j => .bl (f i j))) : OpR X (compareOp op) (rP2 X.K X.mg (ordW f)) := by
  intro pins s σ H x y v u Q I rx ry h
  obtain ⟨G, a, b, w, sub, ra, rb, e, k⟩ := h
  unfold ordW at e
  split at e
  · have e' := Option.some.inj e
    subst e'
    cases (show x = .int _ from ra)
    cases (show y = .int _ from rb)
    exact h0 pins s σ H _ _ v u Q I rx ry ⟨_, _, rfl, rfl, k _ H G (Al.here sub rfl)⟩
  · cases e
theorem op_isP : OpR X (compareOp .Is) (rP2 X.K X.mg (isW false)) := by
  intro pins s σ H x y v u Q I rx ry h
  obtain ⟨G, a, b, w, sub, ra, rb, e, k⟩ := h
  unfold isW at e
  split at e
  case h_1 =>
    have e' := Option.some.inj e
    subst e'
    cases (show x = .bl _ from ra)
    cases (show y = .bl _ from rb)
    exact op_is_bl pins s σ H _ _ v u Q I rx ry ⟨_, _, rfl, rfl, by have := k _ H G (Al.here sub rfl); simpa using this⟩
  case h_10 => cases e
  all_goals
    have e' := Option.some.inj e
    subst e'
    cases (show y = .non from rb)
    refine op_isN pins s σ H _ _ v u Q I rx ry ⟨rfl, ?_⟩
    have q := k _ H G (Al.here sub rfl)
  · cases (show x = .non from ra)
    simpa using q
  · cases (show x = .bl _ from ra)
    simpa using q
  · cases (show x = .int _ from ra)
    simpa using q
  · cases (show x = .str _ from ra)
    simpa using q
  · obtain ⟨p, xs, ex, _⟩ := ra
    subst ex
    simpa using q
  · obtain ⟨p, xs, ex, _⟩ := ra
    subst ex
    simpa using q
  · obtain ⟨p, xs, ex, _⟩ := ra
    subst ex
    simpa using q
  · obtain ⟨p, C, dx, vs, ex, _⟩ := ra
    subst ex
    simpa using q
theorem op_isnotP : OpR X (compareOp .IsNot) (rP2 X.K X.mg (isW true)) := by
  intro pins s σ H x y v u Q I rx ry h
  obtain ⟨G, a, b, w, sub, ra, rb, e, k⟩ := h
  unfold isW at e
  split at e
  case h_1 =>
    have e' := Option.some.inj e
    subst e'
    cases (show x = .bl _ from ra)
    cases (show y = .bl _ from rb)
    exact op_isnot_bl pins s σ H _ _ v u Q I rx ry ⟨_, _, rfl, rfl, by have := k _ H G (Al.here sub rfl); simpa using this⟩
  case h_10 => cases e
  all_goals
    have e' := Option.some.inj e
    subst e'
    cases (show y = .non from rb)
    refine op_notN pins s σ H _ _ v u Q I rx ry ⟨rfl, ?_⟩
    have q := k _ H G (Al.here sub rfl)
  · cases (show x = .non from ra)
    simpa using q
  · cases (show x = .bl _ from ra)
    simpa using q
  · cases (show x = .int _ from ra)
    simpa using q
  · cases (show x = .str _ from ra)
    simpa using q
  · obtain ⟨p, xs, ex, _⟩ := ra
    subst ex
    simpa using q
  · obtain ⟨p, xs, ex, _⟩ := ra
    subst ex
    simpa using q
  · obtain ⟨p, xs, ex, _⟩ := ra
    subst ex
    simpa using q
  · obtain ⟨p, C, dx, vs, ex, _⟩ := ra
    subst ex
    simpa using q
theorem op_inP (hu : X.A.units + 65 < cLine) : OpR X (compareOp .In) (rP2 X.K X.mg (inW false)) := by
  intro pins s σ H x y v u Q I rx ry h
  obtain ⟨G, a, b, w, sub, ra, rb, e, k⟩ := h
  unfold inW at e
  split at e
  · split at e
    · rename_i w1 ws h1 h2
      have e' := Option.some.inj e
      subst e'
      obtain ⟨p, xs, ey, hq, rs⟩ := rb
      obtain ⟨e1, f1⟩ := flatD_ok h1 ra
      obtain ⟨e2, f2⟩ := flatDs_ok sub h2 rs
      subst e1 e2 ey
      exact op_in_seq pins s σ H _ _ v u Q I rx ry ⟨p, _, rfl, .inr (sqT_mono sub hq), f1, f2, by have := k _ H G (Al.here sub rfl); simpa using this⟩
    · cases e
  · split at e
    · rename_i w1 ws h1 h2
      have e' := Option.some.inj e
      subst e'
      obtain ⟨p, xs, ey, hq, rs⟩ := rb
      obtain ⟨e1, f1⟩ := flatD_ok h1 ra
      obtain ⟨e2, f2⟩ := flatDs_ok sub h2 rs
      subst e1 e2 ey
      exact op_in_seq pins s σ H _ _ v u Q I rx ry ⟨p, _, rfl, .inl (SqL.of hq), f1, f2, by have := k _ H G (Al.here sub rfl); simpa using this⟩
    · split at e
      · rename_i p ps h1 h2
        split at e
        · rename_i hs
          rw [Bool.and_eq_true] at hs
          have e' := Option.some.inj e
          subst e'
          obtain ⟨as, r1, _⟩ := RH.reads I sub h1 ra rx
          obtain ⟨bs, r2, _⟩ := RH.reads I sub (d := .lst _) (p := .list ps) (by show (toPys _).map _ = _; rw [h2]; rfl) rb ry
          exact SeqAt.in_list_reads r2 r1 (SeqAt.canLay_of_shaped hs.2) (SeqAt.canLay_of_shaped hs.1) (room_in_shaped hs.1 hu) ⟨.bl _, H, I, rfl, by have := k _ H G (Al.here sub rfl); simpa using this⟩
        · cases e
      · cases e
  · split at e
    · rename_i kk hk
      have e' := Option.some.inj e
      subst e'
      obtain ⟨p, ks, ey, hq, rs⟩ := rb
      have ex := keyD_ok hk ra
      subst ex ey
      have f := findK_ok (k := kk) rs
      cases (show u = Value.ref p from ry)
      refine d_in (by omega) I (DGet.k (k := kk) hq) rx fun s' I' => ⟨.bl _, H, I', rfl, ?_⟩
      have q := k _ H G (Al.here sub rfl)
      split at f
      · rename_i d hd
        obtain ⟨v', hv, _⟩ := f
        rw [hv]
        rw [hd] at q
        simpa using q
      · rename_i hd
        rw [f]
        rw [hd] at q
        simpa using q
    · cases e
  · have e' := Option.some.inj e
    subst e'
    cases (show x = .str _ from ra)
    cases (show y = .str _ from rb)
    exact op_in_str pins s σ H _ _ v u Q I rx ry ⟨_, _, rfl, rfl, by have := k _ H G (Al.here sub rfl); simpa using this⟩
  · cases e
theorem op_notInP (hu : X.A.units + 65 < cLine) : OpR X (compareOp .NotIn) (rP2 X.K X.mg (inW true)) := by
  intro pins s σ H x y v u Q I rx ry h
  obtain ⟨G, a, b, w, sub, ra, rb, e, k⟩ := h
  unfold inW at e
  split at e
  · split at e
    · rename_i w1 ws h1 h2
      have e' := Option.some.inj e
      subst e'
      obtain ⟨p, xs, ey, hq, rs⟩ := rb
      obtain ⟨e1, f1⟩ := flatD_ok h1 ra
      obtain ⟨e2, f2⟩ := flatDs_ok sub h2 rs
      subst e1 e2 ey
      exact op_notIn_seq pins s σ H _ _ v u Q I rx ry ⟨p, _, rfl, .inr (sqT_mono sub hq), f1, f2, by have := k _ H G (Al.here sub rfl); simpa using this⟩
    · cases e
  · split at e
    · rename_i w1 ws h1 h2
      have e' := Option.some.inj e
      subst e'
      obtain ⟨p, xs, ey, hq, rs⟩ := rb
      obtain ⟨e1, f1⟩ := flatD_ok h1 ra
      obtain ⟨e2, f2⟩ := flatDs_ok sub h2 rs
      subst e1 e2 ey
      exact op_notIn_seq pins s σ H _ _ v u Q I rx ry ⟨p, _, rfl, .inl (SqL.of hq), f1, f2, by have := k _ H G (Al.here sub rfl); simpa using this⟩
    · split at e
      · rename_i p ps h1 h2
        split at e
        · rename_i hs
          rw [Bool.and_eq_true] at hs
          have e' := Option.some.inj e
          subst e'
          obtain ⟨as, r1, _⟩ := RH.reads I sub h1 ra rx
          obtain ⟨bs, r2, _⟩ := RH.reads I sub (d := .lst _) (p := .list ps) (by show (toPys _).map _ = _; rw [h2]; rfl) rb ry
          exact SeqAt.notIn_list_reads r2 r1 (SeqAt.canLay_of_shaped hs.2) (SeqAt.canLay_of_shaped hs.1) (room_in_shaped hs.1 hu) ⟨.bl _, H, I, rfl, by have := k _ H G (Al.here sub rfl); simpa using this⟩
        · cases e
      · cases e
  · split at e
    · rename_i kk hk
      have e' := Option.some.inj e
      subst e'
      obtain ⟨p, ks, ey, hq, rs⟩ := rb
      have ex := keyD_ok hk ra
      subst ex ey
      have f := findK_ok (k := kk) rs
      cases (show u = Value.ref p from ry)
      refine d_notIn (by omega) I (DGet.k (k := kk) hq) rx fun s' I' => ⟨.bl _, H, I', rfl, ?_⟩
      have q := k _ H G (Al.here sub rfl)
      split at f
      · rename_i d hd
        obtain ⟨v', hv, _⟩ := f
        rw [hv]
        rw [hd] at q
        simpa using q
      · rename_i hd
        rw [f]
        rw [hd] at q
        simpa using q
    · cases e
  · have e' := Option.some.inj e
    subst e'
    cases (show x = .str _ from ra)
    cases (show y = .str _ from rb)
    exact op_notin_str pins s σ H _ _ v u Q I rx ry ⟨_, _, rfl, rfl, by have := k _ H G (Al.here sub rfl); simpa using this⟩
  · cases e
/-- any comparison -/
theorem op_cmpP (hu : X.A.units + 65 < cLine) : ∀ op : CmpOp, OpR X (compareOp op) (rP2 X.K X.mg (cmpW op))
  | .Eq => op_eqP (by omega)
  | .NotEq => op_neP (by omega)
  | .Lt => op_ordP op_lt
  | .LtE => op_ordP op_le
  | .Gt => op_ordP op_gt
  | .GtE => op_ordP op_ge
  | .Is => op_isP
  | .IsNot => op_isnotP
  | .In => op_inP hu
  | .NotIn => op_notInP hu
def cmpM (op : CmpOp) (ma mb : M A) : M W := fun ρ => (ma ρ).bind fun x ρ => (mb ρ).bind fun y ρ => op2 (cmpW op) x y ρ
theorem pm_cmp {op : CmpOp} (hu : X.A.units + 65 < cLine) (ha : PMA X Wx a ma) (hb : PMA X Wx b mb) (hm : behindInMarks op b = false) : PM X Wx (.Compare a [op] [b] pos) (cmpM op ma mb) :=
  peImp (pe_cmpR (op_cmpP hu op) ha hb hm) fun σ H Q h => two_go h
/-- a value that is True or False -/
def boolM (m : M W) : M Bool := fun ρ => match m ρ with
  | .ok (.d (.bl b)) ρ => .ok b ρ
  | .exc c fs ρ => .exc c fs ρ
  | _ => .bad
theorem tTest_of {K : PySem.W.Frag} {mg : Str → Option Value} {t : TE} {σ : St} {H : Hp} {Q : Bool → Hp → Prop} {m : M W} (h : ∀ Q, tM K mg Wx m σ H Q → t σ H Q) (q : tB2 K mg Wx (boolM m) σ H Q) : tTest t σ H Q := by
  refine h _ ?_
  obtain ⟨ρ, G, R, g⟩ := q
  refine ⟨ρ, G, R, ?_⟩
  unfold boolM at g
  cases e : m ρ with
  | ok w ρ1 =>
    rw [e] at g
    intro v H' G' R' F' r
    cases w with
    | d x =>
      cases x with
      | bl b => exact ⟨b, r.1, g H' G' R' F'⟩
      | _ => exact g.elim
    | own x => exact g.elim
  | exc c fs ρ1 => rw [e] at g; exact g
  | bad => rw [e] at g; exact g
theorem pmb_cmp {op : CmpOp} (hu : X.A.units + 65 < cLine) (ha : PMA X Wx a ma) (hb : PMA X Wx b mb) (hm : behindInMarks op b = false) : PMB X Wx (.Compare a [op] [b] pos) (boolM (cmpM op ma mb)) :=
  ptImp (pt_cmpR (op_cmpP hu op) ha hb hm) fun σ H Q h => tTest_of (fun Q h => two_go h) h
/-- two comparisons in a row -/
def chainM (op op' : CmpOp) (ma mb mc : M A) : M W := fun ρ => (ma ρ).bind fun x ρ => (mb ρ).bind fun y ρ => (op2 (cmpW op) x y ρ).dat fun z ρ => match z with
  | .bl true => (mc ρ).bind fun w ρ => op2 (cmpW op') y w ρ
  | .bl false => .ok (.d (.bl false)) ρ
  | _ => .bad
theorem chain_go {op op' : CmpOp} {K : PySem.W.Frag} {mg : Str → Option Value} {σ : St} {H : Hp} {Q : VK} (h : tM K mg Wx (chainM op op' ma mb mc) σ H Q) :
    tChain (rP2 K mg (cmpW op)) (rP2 K mg (cmpW op')) (tA K mg Wx ma) (tA K mg Wx mb) (tA K mg Wx mc) σ H Q := by
  obtain ⟨ρ, G, R, h⟩ := h
  refine tA_mono (tA_bind R h) fun v H1 ⟨x, ρ1, G1, R1, rv, F1, k⟩ => ?_
  refine tA_mono (tA_bind R1 k) fun u H2 ⟨y, ρ2, G2, R2, ru, F2, k2⟩ => ?_
  unfold op2 at k2
  split at k2
  · rename_i da db ea eb
    unfold liftM at k2
    split at k2
    · rename_i w e
      refine ⟨G2, da, db, w, R2.sub, (rv.mono F2.grow).read R2 ea, ru.read R2 eb, e, fun z H3 G3 al => ?_⟩
      obtain ⟨R3, F3, r3⟩ := R2.al al
      obtain ⟨G4, R4, F4, rz⟩ := keep_res R3 F3 r3
      have k3 : GoE K mg Wx σ ρ2 H3 G4 _ Q := GoE.shift F4 k2
      dsimp only [Res.dat] at k3
      split at k3
      · rename_i ez
        rw [ez] at rz
        exact ⟨true, rz, iteT (tA_mono (tA_bind R4 k3) fun t H5 ⟨d, ρ5, G5, R5, rt, F5, k5⟩ => op2_go R5 (ru.mono (F4.grow.trans F5.grow)) rt k5)⟩
      · rename_i ez
        rw [ez] at rz
        exact ⟨false, rz, iteF (k3 _ H3 G4 R4 Fr.refl ⟨rfl, fun _ _ z => nomatch z⟩)⟩
      · exact k3.elim
    · exact k2.elim
  · exact k2.elim
theorem pm_chain {op op' : CmpOp} (hu : X.A.units + 65 < cLine) (ha : PMA X Wx a ma) (hb : PMA X Wx b mb) (hc : PMA X Wx c mc) (hm : lastMarks [op, op'] [b, c] = false) : PM X Wx (.Compare a [op, op'] [b, c] pos) (chainM op op' ma mb mc) :=
  peImp (pe_chain (op_cmpP hu op) (op_cmpP hu op') ha hb hc hm) fun σ H Q h => chain_go h
theorem pmb_chain {op op' : CmpOp} (hu : X.A.units + 65 < cLine) (ha : PMA X Wx a ma) (hb : PMA X Wx b mb) (hc : PMA X Wx c mc) (hm : lastMarks [op, op'] [b, c] = false) : PMB X Wx (.Compare a [op, op'] [b, c] pos) (boolM (chainM op op' ma mb mc)) :=
  ptImp (pt_chain (op_cmpP hu op) (op_cmpP hu op') ha hb hc hm) fun σ H Q h => tTest_of (fun Q h => chain_go h) h
end
end FL
set_option Elab.async false
set_option linter.all false
set_option maxRecDepth 100000
set_option maxHeartbeats 2000000
namespace FL
open PySem PySem.Spec L2
open PyProof.Rows hiding St
def ixW : D → D → Option W
  | .tup ds, .int i => (atI ds i).map .d
  | .lst ds, .int i => (atI ds i).map .d
  | .str z, .int i => if sizeOk z.length = true then (atI z.cps.toList i).map fun c => .d (.str ⟨#[c]⟩) else none
  | .dct kvs, x => match keyD x with
    | some k => (findK kvs k).map .d
    | none => none
  | .ldc kvs, x => match keyD x with
    | some k => (findK kvs k).map .d
    | none => none
  | _, _ => none
section
variable {K : PySem.W.Frag} {mg : Str → Option Value} {H G : Hp}
theorem RVs.atI {ds : List D} {xs : List V} {i : Int} {d : D} (r : RVs K mg G ds xs) (h : L2.atI ds i = some d) : ∃ v, L2.atI xs i = some v ∧ RV K mg G d v := by
  unfold L2.atI at h ⊢
  obtain ⟨j, h1, h2⟩ := Option.bind_eq_some_iff.mp h
  obtain ⟨v, h3, h4⟩ := r.get h2
  refine ⟨v, ?_, h4⟩
  rw [← r.length, h1]
  exact h3
end
section
variable {X : Cx} {Wx : WG} {e a b c : Expr} {pos : Pos} {m : M W} {ma mb mc : M A}
theorem ix_dct (hu : X.A.units + 1 < cLine) : IxR X (fun x y H Q => ∃ p k v, x = .ref p ∧ DGet H p y (some v) ∧ k = (0 : Nat) ∧ Q v H) := by
  intro value slice pins s σ H x y v u Q I rx ry h hs
  obtain ⟨p, _, w, ex, g, _, q⟩ := h
  subst ex
  cases (show v = Value.ref p from rx)
  have ty := dict_typeIs I g
  have last : wpAny (model X.prog X.w) X.A (subscripted slice false (.ref p) u) (fun r s3 => wpAny (model X.prog X.w) X.A (do letTemporaryGo value (.ref p) r; pure r) (EP X pins σ Q) X.xe s3) X.xe s := by
    rw [hs]
    refine wpAny_operating (d_getItem hu I g ry fun w' s' I' rw' => wpAny_bind (wpAny_letTemporaryGo (wpAny_pure ?_)))
    exact ⟨w, H, I', rw', q⟩
  unfold subscriptTail
  refine wpAny_bind ?_
  rw [getitemInPython_of_ne ty.not_modules]
  refine wpAny_bind (wpAny_specialOf ty PySem.F.slot_dict_getitem.lookup ?_)
  first
    | exact wpAny_pure (wpAny_bind last)
    | exact wpAny_bind (wpAny_pure (wpAny_bind last))
    | exact wpAny_bind last
theorem ix_P (hu : X.A.units + 1 < cLine) : IxR X (rP2 X.K X.mg ixW) := by
  intro value slice pins s σ H x y v u Q I rx ry h hs
  obtain ⟨G, a, b, w, sub, ra, rb, e, k⟩ := h
  unfold ixW at e
  split at e
  · obtain ⟨d, h1, h2⟩ := Option.map_eq_some_iff.mp e
    subst h2
    obtain ⟨p, xs, ex, hq, rs⟩ := ra
    cases (show y = .int _ from rb)
    subst ex
    obtain ⟨z, hz, rz⟩ := rs.atI h1
    exact ix_tup value slice pins s σ H _ _ v u Q I rx ry ⟨p, xs, _, z, rfl, rfl, sqT_mono sub hq, hz, k _ H G (Al.here sub rz)⟩ hs
  · obtain ⟨d, h1, h2⟩ := Option.map_eq_some_iff.mp e
    subst h2
    obtain ⟨p, xs, ex, hq, rs⟩ := ra
    cases (show y = .int _ from rb)
    subst ex
    obtain ⟨z, hz, rz⟩ := rs.atI h1
    exact ix_list value slice pins s σ H _ _ v u Q I rx ry ⟨p, xs, _, z, rfl, rfl, SqL.of hq, hz, k _ H G (Al.here sub rz)⟩ hs
  · split at e
    · rename_i hz
      obtain ⟨d, h1, h2⟩ := Option.map_eq_some_iff.mp e
      subst h2
      cases (show x = .str _ from ra)
      cases (show y = .int _ from rb)
      exact ix_str value slice pins s σ H _ _ v u Q I rx ry ⟨_, _, d, rfl, rfl, sizeOk_le hz, h1, k _ H G (Al.here sub rfl)⟩ hs
    · cases e
  · split at e
    · rename_i kk hk
      obtain ⟨d, h1, h2⟩ := Option.map_eq_some_iff.mp e
      subst h2
      obtain ⟨p, ks, ex, hq, rs⟩ := ra
      have ey := keyD_ok hk rb
      subst ex ey
      have f := findK_ok (k := kk) rs
      rw [h1] at f
      obtain ⟨z, hz, rz⟩ := f
      exact ix_dct hu value slice pins s σ H _ _ v u Q I rx ry ⟨p, 0, z, rfl, by rw [← hz]; exact DGet.k (k := kk) hq, rfl, k _ H G (Al.here sub rz)⟩ hs
    · cases e
  · split at e
    · rename_i kk hk
      obtain ⟨d, h1, h2⟩ := Option.map_eq_some_iff.mp e
      subst h2
      obtain ⟨p, o, ks, ex, hq, rs⟩ := ra
      have ey := keyD_ok hk rb
      subst ex ey
      have f := findK_ok (k := kk) rs
      rw [h1] at f
      obtain ⟨z, hz, rz⟩ := f
      exact ix_dct hu value slice pins s σ H _ _ v u Q I rx ry ⟨p, 0, z, rfl, .inl ⟨ks, kk, .inr ⟨o, sub _ _ hq⟩, rfl, by rw [← hz]⟩, rfl, k _ H G (Al.here sub rz)⟩ hs
    · cases e
  · cases e
def ixM (ma mb : M A) : M W := fun ρ => (ma ρ).bind fun x ρ => (mb ρ).bind fun y ρ => op2 ixW x y ρ
theorem pm_ix (hu : X.A.units + 1 < cLine) (ha : PMA X Wx a ma) (hb : PMA X Wx b mb) (hs : PlainIx b) : PM X Wx (.Subscript a b pos) (ixM ma mb) := peImp (pe_ix (ix_P hu) ha hb hs) fun σ H Q h => two_go h
def cutD {α : Type} (xs : List α) (lo hi : Option Int) : List α := (xs.drop (HT.sIx xs.length 0 lo)).take (HT.sIx xs.length xs.length hi - HT.sIx xs.length 0 lo)
def slW (lo hi : Option Int) : D → Option W
  | .tup ds => some (.d (.tup (cutD ds lo hi)))
  | .lst ds => some (.own (.lst (cutD ds lo hi)))
  | .str z => if sizeOk z.length = true then some (.d (.str (cutS z lo hi))) else none
  | _ => none
def rSlP (K : PySem.W.Frag) (mg : Str → Option Value) : V → Option Int → Option Int → Hp → VK → Prop := fun x lo hi H Q =>
  ∃ G a w, SubH G H ∧ RH K mg H G a x ∧ slW lo hi a = some w ∧ ∀ v H' G', Al K mg H G H' G' v w → Q v H'
theorem RVs.cut {K : PySem.W.Frag} {mg : Str → Option Value} {G : Hp} {ds : List D} {xs : List V} (r : RVs K mg G ds xs) (lo hi : Option Int) : RVs K mg G (cutD ds lo hi) (cutV xs lo hi) := by
  unfold cutD cutV
  rw [r.length]
  exact (r.drop _).take _
theorem sl_P : SlR X (rSlP X.K X.mg) := by
  intro pins s σ H x v vl vu lo hi sl Q I rx hs pl pu h
  obtain ⟨G, a, w, sub, ra, e, k⟩ := h
  unfold slW at e
  split at e
  · have e' := Option.some.inj e
    subst e'
    obtain ⟨p, xs, ex, hq, rs⟩ := ra
    subst ex
    refine sl_tupA pins s σ H _ v vl vu lo hi sl Q I rx hs pl pu ⟨p, xs, rfl, sqT_mono sub hq, fun hw => ?_, fun hw q hp => k _ _ _ (Al.tup sub hp (rs.cut lo hi))⟩
    refine k _ H G (Al.here sub ⟨p, xs, rfl, hq, ?_⟩)
    have e2 : cutV xs lo hi = xs := by
      unfold cutV
      rw [hw.1, hw.2]
      simp
    have := rs.cut lo hi
    rw [e2] at this
    exact this
  · have e' := Option.some.inj e
    subst e'
    obtain ⟨p, xs, ex, hq, rs⟩ := ra
    subst ex
    exact sl_list pins s σ H _ v vl vu lo hi sl Q I rx hs pl pu ⟨p, xs, rfl, SqL.of hq, fun q hp => k _ _ _ (Al.lst sub hp (rs.cut lo hi))⟩
  · split at e
    · rename_i hz
      have e' := Option.some.inj e
      subst e'
      cases (show x = .str _ from ra)
      exact sl_str pins s σ H _ v vl vu lo hi sl Q I rx hs pl pu ⟨_, rfl, sizeOk_le hz, k _ H G (Al.here sub rfl)⟩
    · cases e
  · cases e
/-- an end of a slice -/
def GoO (K : PySem.W.Frag) (mg : Str → Option Value) (Wx : WG) (σ : St) (ρ : Rho) (H G : Hp) (r : Res (Option Int)) (Q : Option Int → Hp → Prop) : Prop :=
  match r with
  | .ok a ρ' => ∀ H' G', Rel K mg Wx.fl σ ρ' H' G' → Fr [] σ ρ H G σ ρ' H' G' → Q a H'
  | .exc c fs ρ' => ∀ cls od H' G', Rel K mg Wx.fl σ ρ' H' G' → Fr [] σ ρ H G σ ρ' H' G' → RX K mg H' G' cls od c fs → Wx.w cls od σ H'
  | .bad => False
def tO2 (K : PySem.W.Frag) (mg : Str → Option Value) (Wx : WG) (m : M (Option Int)) : TO := fun σ H Q => ∃ ρ G, Rel K mg Wx.fl σ ρ H G ∧ GoO K mg Wx σ ρ H G (m ρ) Q
abbrev PMO (X : Cx) (Wx : WG) (e : Option Expr) (m : M (Option Int)) : Prop := PO X e (tO2 X.K X.mg Wx m)
def noPart : M (Option Int) := fun ρ => .ok none ρ
def partM (m : M W) : M (Option Int) := fun ρ => (m ρ).dat fun x ρ => match x with
  | .int i => .ok (some i) ρ
  | _ => .bad
section
variable {K : PySem.W.Frag} {mg : Str → Option Value} {σ : St} {ρ ρ1 : Rho} {H H1 G G1 : Hp}
theorem GoO.shift {r : Res (Option Int)} {Q : Option Int → Hp → Prop} (f : Fr [] σ ρ H G σ ρ1 H1 G1) (h : GoO K mg Wx σ ρ H G r Q) : GoO K mg Wx σ ρ1 H1 G1 r Q := by
  cases r with
  | ok w ρ' => exact fun H' G' R F => h H' G' R (f.trans F)
  | exc c fs ρ' => exact fun cls od H' G' R F r => h cls od H' G' R (f.trans F) r
  | bad => exact h
theorem tO2_bind {m : M (Option Int)} {f : Option Int → M W} {Q : VK} (R : Rel K mg Wx.fl σ ρ H G) (h : GoE K mg Wx σ ρ H G ((m ρ).bind f) Q) :
    tO2 K mg Wx m σ H fun o H1 => ∃ ρ1 G1, Rel K mg Wx.fl σ ρ1 H1 G1 ∧ Fr [] σ ρ H G σ ρ1 H1 G1 ∧ GoE K mg Wx σ ρ1 H1 G1 (f o ρ1) Q := by
  refine ⟨ρ, G, R, ?_⟩
  cases e : m ρ with
  | ok w ρ1 => rw [e] at h; exact fun H' G' R' F' => ⟨ρ1, G', R', F', GoE.shift F' h⟩
  | exc c fs ρ1 => rw [e] at h; exact h
  | bad => rw [e] at h; exact h.elim
theorem tO2_mono {m : M (Option Int)} {Q Q' : Option Int → Hp → Prop} (h : tO2 K mg Wx m σ H Q) (k : ∀ v H1, Q v H1 → Q' v H1) : tO2 K mg Wx m σ H Q' := by
  obtain ⟨ρ, G, R, g⟩ := h
  refine ⟨ρ, G, R, ?_⟩
  cases e : m ρ with
  | ok w ρ1 => rw [e] at g; exact fun H' G' R' F' => k _ _ (g H' G' R' F')
  | exc c fs ρ1 => rw [e] at g; exact g
  | bad => rw [e] at g; exact g
theorem tM_datO {m : M W} {f : D → M (Option Int)} {Q : Option Int → Hp → Prop} (R : Rel K mg Wx.fl σ ρ H G) (h : GoO K mg Wx σ ρ H G ((m ρ).dat f) Q) :
    tM K mg Wx m σ H fun v H1 => ∃ x ρ1 G1, Rel K mg Wx.fl σ ρ1 H1 G1 ∧ RV K mg G1 x v ∧ Fr [] σ ρ H G σ ρ1 H1 G1 ∧ GoO K mg Wx σ ρ1 H1 G1 (f x ρ1) Q := by
  refine ⟨ρ, G, R, ?_⟩
  cases e : m ρ with
  | ok w ρ1 =>
    rw [e] at h
    intro v H' G' R' F' r
    obtain ⟨G2, R2, F2, rv⟩ := keep_res R' F' r
    exact ⟨w.data, ρ1, G2, R2, rv, F2, GoO.shift F2 h⟩
  | exc c fs ρ1 => rw [e] at h; exact h
  | bad => rw [e] at h; exact h.elim
end
theorem poImp {e : Option Expr} {u u' : TO} (h : PO X e u) (w : ∀ σ H Q, u' σ H Q → u σ H Q) : PO X e u' := ⟨fun pins s σ H Q I q => h.run pins s σ H Q I (w σ H Q q)⟩
theorem pmo_none : PMO X Wx none noPart := poImp po_none fun σ H Q h => by
  obtain ⟨ρ, G, R, h⟩ := h
  exact h H G R Fr.refl
theorem pmo_some (h : PM X Wx e m) : PMO X Wx (some e) (partM m) := poImp (po_some h) fun σ H Q h => by
  obtain ⟨ρ, G, R, h⟩ := h
  refine tM_mono (tM_datO R h) fun v H1 ⟨x, ρ1, G1, R1, rv, F1, k⟩ => ?_
  split at k
  · exact ⟨_, rv, k H1 G1 R1 Fr.refl⟩
  · exact k.elim
def slM (ma : M A) (ml mh : M (Option Int)) : M W := fun ρ => (ma ρ).bind fun x ρ => (ml ρ).bind fun lo ρ => (mh ρ).bind fun hi ρ => op1 (slW lo hi) x ρ
theorem pm_sl {lo hi : Option Expr} {ml mh : M (Option Int)} {p2 : Pos} (ha : PMA X Wx a ma) (hl : PMO X Wx lo ml) (hh : PMO X Wx hi mh) : PM X Wx (.Subscript a (.Slice lo hi none p2) pos) (slM ma ml mh) := by
  refine peImp (pe_slice sl_P ha hl hh) fun σ H Q h => ?_
  obtain ⟨ρ, G, R, h⟩ := h
  refine tA_mono (tA_bind R h) fun v H1 ⟨x, ρ1, G1, R1, rv, F1, k⟩ => ?_
  refine tO2_mono (tO2_bind R1 k) fun l H2 ⟨ρ2, G2, R2, F2, k2⟩ => ?_
  refine tO2_mono (tO2_bind R2 k2) fun u H3 ⟨ρ3, G3, R3, F3, k3⟩ => ?_
  exact op1_go R3 (rv.mono (F2.grow.trans F3.grow)) k3
/-- a call of a built-in by data -/
def bcM (φ : List D → Option W) (ms : M (List A)) : M W := fun ρ => (ms ρ).bind fun xs ρ => opn φ xs ρ
theorem pm_bcB {es : List Expr} {x : Str} {p : Pos} {id : String} {φ : List D → Option W} {ms : M (List A)} (hc : CallR X (.builtin id) (rPn X.K X.mg φ)) (hg : Gl X x) (hm : X.mg x = none) (hv : bootBuiltins x = some (.builtin id))
    (ha : PMAs X Wx (e :: es) ms) (hn : x ≠ "__name__") (hdb : (x == ("__debug__" : Str)) = false) (he : starEach (e :: es) X.env = (false, eval e X.env) :: starEach es X.env) (hpl : (backTo pos (starEach es X.env)).any (·.1) = false) :
    PM X Wx (.Call (.Name x p) (e :: es) [] pos) (bcM φ ms) := by
  refine peImp (pe_callB hc hg hm hv ha hn hdb he hpl) fun σ H Q h => ?_
  obtain ⟨ρ, G, R, h⟩ := h
  exact tAs_mono (tAs_bind R h) fun vs H1 ⟨as, ρ1, G1, R1, rv, F1, k⟩ => opn_go R1 rv k
theorem pm_bcT {es : List Expr} {x : Str} {p : Pos} {T : String} {φ : List D → Option W} {ms : M (List A)} (hc : CallR X (.type T) (rPn X.K X.mg φ)) (hg : Gl X x) (hm : X.mg x = none) (hv : bootBuiltins x = some (.type T))
    (ha : PMAs X Wx (e :: es) ms) (hn : x ≠ "__name__") (hdb : (x == ("__debug__" : Str)) = false) (he : starEach (e :: es) X.env = (false, eval e X.env) :: starEach es X.env) (hpl : (backTo pos (starEach es X.env)).any (·.1) = false) :
    PM X Wx (.Call (.Name x p) (e :: es) [] pos) (bcM φ ms) := by
  refine peImp (pe_callTy hc hg hm hv ha hn hdb he hpl) fun σ H Q h => ?_
  obtain ⟨ρ, G, R, h⟩ := h
  exact tAs_mono (tAs_bind R h) fun vs H1 ⟨as, ρ1, G1, R1, rv, F1, k⟩ => opn_go R1 rv k
theorem pm_bcF {es : List Expr} {x : Str} {p : Pos} {id : String} {φ : List D → Option W} {ms : M (List A)} (hc : CallR X (.builtin id) (rPn X.K X.mg φ)) (hg : Gl X x) (hm : X.mg x = some (.builtin id))
    (ha : PMAs X Wx (e :: es) ms) (hdb : (x == ("__debug__" : Str)) = false) (he : starEach (e :: es) X.env = (false, eval e X.env) :: starEach es X.env) (hpl : (backTo pos (starEach es X.env)).any (·.1) = false) :
    PM X Wx (.Call (.Name x p) (e :: es) [] pos) (bcM φ ms) := by
  refine peImp (pe_callBfun hc hg hm ha hdb he hpl) fun σ H Q h => ?_
  obtain ⟨ρ, G, R, h⟩ := h
  exact tAs_mono (tAs_bind R h) fun vs H1 ⟨as, ρ1, G1, R1, rv, F1, k⟩ => opn_go R1 rv k
end
end FL
set_option Elab.async false
set_option linter.all false
set_option maxRecDepth 100000
set_option maxHeartbeats 2000000
namespace FL
open PySem PySem.Spec L2
open PyProof.Rows hiding St
def lenW : List D → Option W
  | [.tup ds] => some (.d (.int ds.length))
  | [.lst ds] => some (.d (.int ds.length))
  | [.dct ds] => some (.d (.int ds.length))
  | [.str z] => if sizeOk z.length = true then some (.d (.int z.length)) else none
  | _ => none
def absW : List D → Option W
  | [.int i] => some (.d (.int (if i < 0 then -i else i)))
  | _ => none
def intW : List D → Option W
  | [.int i] => some (.d (.int i))
  | [.bl b] => some (.d (.int (if b then 1 else 0)))
  | _ => none
def gcdW : List D → Option W
  | [.int a, .int b] => some (.d (.int ((Nat.gcd a.natAbs b.natAbs : Nat) : Int)))
  | _ => none
def max2W : List D → Option W
  | [.int a, .int b] => some (.d (.int (if b > a then b else a)))
  | _ => none
def min2W : List D → Option W
  | [.int a, .int b] => some (.d (.int (if b < a then b else a)))
  | _ => none
def blsD : List D → Option (List Bool)
  | [] => some []
  | .bl b :: ds => (blsD ds).map (b :: ·)
  | _ => none
def allW : List D → Option W
  | [.lst ds] => (blsD ds).map fun bs => .d (.bl (bs.all id))
  | _ => none
def anyW : List D → Option W
  | [.lst ds] => (blsD ds).map fun bs => .d (.bl (bs.any id))
  | _ => none
def listW : List D → Option W
  | [.tup ds] => some (.own (.lst ds))
  | [.lst ds] => some (.own (.lst ds))
  | [.scr ns] => some (.own (.lst (ns.map .int)))
  | _ => none
def tupleW : List D → Option W
  | [.tup ds] => some (.d (.tup ds))
  | [.lst ds] => some (.d (.tup ds))
  | _ => none
mutual
/-- texts and numbers that are not too long to be shown -/
def rOk : PyData → Bool
  | .int i => decide (i.natAbs.log2 < 1920)
  | .str x => x.cps.toList.all fun c => decide (c < 16 ^ 8)
  | .list xs => rOks xs
  | .tuple xs => rOks xs
  | .dict kvs => rOkk kvs
  | _ => true
def rOks : List PyData → Bool
  | [] => true
  | x :: xs => rOk x && rOks xs
def rOkk : List (PyData × PyData) → Bool
  | [] => true
  | (k, v) :: r => rOk k && rOk v && rOkk r
end
mutual
/-- how much there is to be shown -/
def rsz : PyData → Nat
  | .str x => x.cps.size + 1
  | .list xs => rszs xs + 1
  | .tuple xs => rszs xs + 1
  | .dict kvs => rszk kvs + 1
  | _ => 1
def rszs : List PyData → Nat
  | [] => 0
  | x :: xs => rsz x + 1 + rszs xs
def rszk : List (PyData × PyData) → Nat
  | [] => 0
  | (k, v) :: r => rsz k + rsz v + 1 + rszk r
end
theorem shownAll_len : ∀ xs : List PyData, (PyData.shownAll xs).length = xs.length
  | [] => rfl
  | x :: xs => by simp only [PyData.shownAll, List.length_cons, shownAll_len xs]
mutual
theorem rOk_ok : ∀ p : PyData, rOk p = true → p.showable = true ∧ p.shown.length ≤ 1930 * rsz p
  | .none, _ => ⟨rfl, by decide⟩
  | .bool b, _ => ⟨rfl, by cases b <;> decide⟩
  | .int i, h => by
    have h' : i.natAbs.log2 < 1920 := of_decide_eq_true h
    refine ⟨h, ?_⟩
    have e := int_text_length_le (k := 1920) (by decide) h'
    have e2 : (PyData.shown (.int i)).length = (toString i).length := PySem.ofString_length _
    rw [e2]
    simp only [rsz]
    omega
  | .str x, h => by
    have hx : ∀ c ∈ x.cps.toList, c < 16 ^ 8 := by simpa only [rOk, List.all_eq_true, decide_eq_true_eq] using h
    have e := PySem.StrLaws.reprText_len x hx
    have e2 : x.length = x.cps.size := rfl
    refine ⟨rfl, ?_⟩
    simp only [PyData.shown, rsz]
    omega
  | .list xs, h => by
    obtain ⟨a, b⟩ := rOks_ok xs h
    have h2 := listText_len_le (PyData.shownAll xs)
    have h3 := shownAll_len xs
    refine ⟨a, ?_⟩
    simp only [PyData.shown, rsz]
    omega
  | .tuple xs, h => by
    obtain ⟨a, b⟩ := rOks_ok xs h
    have h2 := tupleText_len_le (PyData.shownAll xs)
    have h3 := shownAll_len xs
    refine ⟨a, ?_⟩
    simp only [PyData.shown, rsz]
    omega
  | .dict kvs, h => by
    obtain ⟨a, b⟩ := rOkk_ok kvs h
    have h2 := dictText_len_le (PyData.shownKv kvs)
    have h3 := PyData.shownKv_length kvs
    refine ⟨a, ?_⟩
    simp only [PyData.shown, rsz]
    omega
theorem rOks_ok : ∀ ps : List PyData, rOks ps = true → PyData.showableAll ps = true ∧ ((PyData.shownAll ps).map (·.length)).sum + 2 * ps.length ≤ 1930 * rszs ps
  | [], _ => ⟨rfl, by simp [PyData.shownAll, rszs]⟩
  | p :: ps, h => by
    have h' : rOk p = true ∧ rOks ps = true := by simpa [rOks] using h
    obtain ⟨a1, a2⟩ := rOk_ok p h'.1
    obtain ⟨b1, b2⟩ := rOks_ok ps h'.2
    refine ⟨by simp [PyData.showableAll, a1, b1], ?_⟩
    simp only [PyData.shownAll, rszs, List.map_cons, List.sum_cons, List.length_cons]
    omega
theorem rOkk_ok : ∀ ps : List (PyData × PyData), rOkk ps = true → PyData.showableKv ps = true ∧ ((PyData.shownKv ps).map (·.length)).sum + 2 * ps.length ≤ 1930 * rszk ps
  | [], _ => ⟨rfl, by simp [PyData.shownKv, rszk]⟩
  | (k, v) :: ps, h => by
    have h' : (rOk k = true ∧ rOk v = true) ∧ rOkk ps = true := by simpa [rOkk] using h
    obtain ⟨a1, a2⟩ := rOk_ok k h'.1.1
    obtain ⟨c1, c2⟩ := rOk_ok v h'.1.2
    obtain ⟨b1, b2⟩ := rOkk_ok ps h'.2
    refine ⟨by simp [PyData.showableKv, a1, b1, c1], ?_⟩
    have e2 : (k.shown ++ ": " ++ v.shown).length = k.shown.length + 2 + v.shown.length := by
      rw [strLen_append, strLen_append]
      rfl
    simp only [PyData.shownKv, rszk, List.map_cons, List.sum_cons, List.length_cons]
    omega
end
/-- what repr can show -/
def canShow (p : PyData) : Bool := rOk p && decide (rsz p ≤ 8000) && decide (p.depth ≤ 60) && (!p.hasDict || noLst p)
theorem canShow_len {p : PyData} (h : canShow p = true) : p.shown.length ≤ sizeLine := by
  unfold canShow at h
  simp only [Bool.and_eq_true, decide_eq_true_eq] at h
  have h1 := (rOk_ok p h.1.1.1).2
  have h2 : 1930 * rsz p ≤ 1930 * 8000 := Nat.mul_le_mul_left _ h.1.1.2
  rw [sizeLine_eq]
  omega
def reprW : List D → Option W
  | [d] => match toPy d with
    | some p => if canShow p = true then some (.d (.str p.shown)) else none
    | none => none
  | _ => none
section
variable {K : PySem.W.Frag} {mg : Str → Option Value} {H G : Hp}
theorem RHs.nil {vs : List V} (r : RHs K mg H G [] vs) : vs = [] := by
  cases vs with
  | nil => rfl
  | cons _ _ => exact r.elim
theorem RHs.cons {d : D} {ds : List D} {vs : List V} (r : RHs K mg H G (d :: ds) vs) : ∃ v ws, vs = v :: ws ∧ RH K mg H G d v ∧ RHs K mg H G ds ws := by
  cases vs with
  | nil => exact r.elim
  | cons v ws => exact ⟨v, ws, rfl, r.1, r.2⟩
theorem RHs.one {d : D} {vs : List V} (r : RHs K mg H G [d] vs) : ∃ v, vs = [v] ∧ RH K mg H G d v := by
  obtain ⟨v, ws, e, h, t⟩ := r.cons
  rw [RHs.nil t] at e
  exact ⟨v, e, h⟩
theorem RHs.two {d d' : D} {vs : List V} (r : RHs K mg H G [d, d'] vs) : ∃ v v', vs = [v, v'] ∧ RH K mg H G d v ∧ RH K mg H G d' v' := by
  obtain ⟨v, ws, e, h, t⟩ := r.cons
  obtain ⟨v', e', h'⟩ := RHs.one t
  rw [e'] at e
  exact ⟨v, v', e, h, h'⟩
theorem blsD_ok : ∀ {ds : List D} {bs : List Bool} {vs : List V}, blsD ds = some bs → RVs K mg G ds vs → vs = bs.map V.bl
  | [], bs, vs, e, r => by
    have e' : ([] : List Bool) = bs := Option.some.inj e
    subst e'
    exact r
  | .bl b :: ds, bs, vs, e, ⟨y, ys, ey, ry, rys⟩ => by
    obtain ⟨cs, h1, h2⟩ := Option.map_eq_some_iff.mp (show (blsD ds).map (b :: ·) = some bs from e)
    subst h2 ey
    rw [show y = .bl b from ry, blsD_ok h1 rys]
    rfl
  | .non :: _, _, _, e, _ => nomatch e
  | .int _ :: _, _, _, e, _ => nomatch e
  | .str _ :: _, _, _, e, _ => nomatch e
  | .ty _ :: _, _, _, e, _ => nomatch e
  | .tup _ :: _, _, _, e, _ => nomatch e
  | .lst _ :: _, _, _, e, _ => nomatch e
  | .dct _ :: _, _, _, e, _ => nomatch e
  | .obj _ _ :: _, _, _, e, _ => nomatch e
  | .fn _ :: _, _, _, e, _ => nomatch e
  | .scr _ :: _, _, _, e, _ => nomatch e
end
section
variable {X : Cx}
theorem call_lenP : CallR X (.builtin "len") (rPn X.K X.mg lenW) := by
  intro pins s σ H xs us Q I r h
  obtain ⟨G, ds, w, sub, ra, e, k⟩ := h
  unfold lenW at e
  split at e
  · have e' := Option.some.inj e
    subst e'
    obtain ⟨v, rfl, p, ys, rfl, hq, rs⟩ := ra.one
    exact call_len_seq pins s σ H _ us Q I r ⟨p, ys, rfl, .inr (sqT_mono sub hq), k _ H G (Al.here sub (by rw [rs.length]; rfl))⟩
  · have e' := Option.some.inj e
    subst e'
    obtain ⟨v, rfl, p, ys, rfl, hq, rs⟩ := ra.one
    exact call_len_seq pins s σ H _ us Q I r ⟨p, ys, rfl, .inl (SqL.of hq), k _ H G (Al.here sub (by rw [rs.length]; rfl))⟩
  · have e' := Option.some.inj e
    subst e'
    obtain ⟨v, rfl, p, ys, rfl, hq, rs⟩ := ra.one
    exact call_lenD pins s σ H _ us Q I r ⟨p, ys, rfl, hq, k _ H G (Al.here sub (by rw [rs.length]; rfl))⟩
  · split at e
    · rename_i hz
      have e' := Option.some.inj e
      subst e'
      obtain ⟨v, rfl, ev⟩ := ra.one
      cases (show v = .str _ from ev)
      exact call_len_str pins s σ H _ us Q I r ⟨_, rfl, sizeOk_le hz, k _ H G (Al.here sub rfl)⟩
    · cases e
  · cases e
theorem call_absP : CallR X (.builtin "abs") (rPn X.K X.mg absW) := by
  intro pins s σ H xs us Q I r h
  obtain ⟨G, ds, w, sub, ra, e, k⟩ := h
  unfold absW at e
  split at e
  · have e' := Option.some.inj e
    subst e'
    obtain ⟨v, rfl, ev⟩ := ra.one
    cases (show v = .int _ from ev)
    exact call_abs pins s σ H _ us Q I r ⟨_, rfl, k _ H G (Al.here sub rfl)⟩
  · cases e
theorem call_intP : CallR X (.type "int") (rPn X.K X.mg intW) := by
  intro pins s σ H xs us Q I r h
  obtain ⟨G, ds, w, sub, ra, e, k⟩ := h
  unfold intW at e
  split at e
  · have e' := Option.some.inj e
    subst e'
    obtain ⟨v, rfl, ev⟩ := ra.one
    cases (show v = .int _ from ev)
    exact call_int1 pins s σ H _ us Q I r (.inl ⟨_, rfl, k _ H G (Al.here sub rfl)⟩)
  · have e' := Option.some.inj e
    subst e'
    obtain ⟨v, rfl, ev⟩ := ra.one
    cases (show v = .bl _ from ev)
    exact call_int1 pins s σ H _ us Q I r (.inr ⟨_, rfl, k _ H G (Al.here sub rfl)⟩)
  · cases e
theorem call_gcdP : CallR X (.builtin "math.gcd") (rPn X.K X.mg gcdW) := by
  intro pins s σ H xs us Q I r h
  obtain ⟨G, ds, w, sub, ra, e, k⟩ := h
  unfold gcdW at e
  split at e
  · have e' := Option.some.inj e
    subst e'
    obtain ⟨v, v', rfl, ev, ev'⟩ := ra.two
    cases (show v = .int _ from ev)
    cases (show v' = .int _ from ev')
    exact cr_gcd pins s σ H _ us Q I r ⟨_, _, rfl, k _ H G (Al.here sub rfl)⟩
  · cases e
theorem call_maxP (hc : X.calm = true) : CallR X (.builtin "max") (rPn X.K X.mg max2W) := by
  intro pins s σ H xs us Q I r h
  obtain ⟨G, ds, w, sub, ra, e, k⟩ := h
  unfold max2W at e
  split at e
  · have e' := Option.some.inj e
    subst e'
    obtain ⟨v, v', rfl, ev, ev'⟩ := ra.two
    cases (show v = .int _ from ev)
    cases (show v' = .int _ from ev')
    exact call_max2 hc pins s σ H _ us Q I r ⟨_, _, rfl, k _ H G (Al.here sub rfl)⟩
  · cases e
theorem call_minP (hc : X.calm = true) : CallR X (.builtin "min") (rPn X.K X.mg min2W) := by
  intro pins s σ H xs us Q I r h
  obtain ⟨G, ds, w, sub, ra, e, k⟩ := h
  unfold min2W at e
  split at e
  · have e' := Option.some.inj e
    subst e'
    obtain ⟨v, v', rfl, ev, ev'⟩ := ra.two
    cases (show v = .int _ from ev)
    cases (show v' = .int _ from ev')
    exact call_min2 hc pins s σ H _ us Q I r ⟨_, _, rfl, k _ H G (Al.here sub rfl)⟩
  · cases e
theorem call_allP (hc : X.calm = true) : CallR X (.builtin "all") (rPn X.K X.mg allW) := by
  intro pins s σ H xs us Q I r h
  obtain ⟨G, ds, w, sub, ra, e, k⟩ := h
  unfold allW at e
  split at e
  · obtain ⟨bs, h1, h2⟩ := Option.map_eq_some_iff.mp e
    subst h2
    obtain ⟨v, rfl, p, ys, rfl, hq, rs⟩ := ra.one
    have ey := blsD_ok h1 rs
    subst ey
    exact cr_all hc pins s σ H _ us Q I r ⟨p, bs, rfl, SqL.of hq, k _ H G (Al.here sub rfl)⟩
  · cases e
theorem call_anyP (hc : X.calm = true) : CallR X (.builtin "any") (rPn X.K X.mg anyW) := by
  intro pins s σ H xs us Q I r h
  obtain ⟨G, ds, w, sub, ra, e, k⟩ := h
  unfold anyW at e
  split at e
  · obtain ⟨bs, h1, h2⟩ := Option.map_eq_some_iff.mp e
    subst h2
    obtain ⟨v, rfl, p, ys, rfl, hq, rs⟩ := ra.one
    have ey := blsD_ok h1 rs
    subst ey
    exact cr_any hc pins s σ H _ us Q I r ⟨p, bs, rfl, SqL.of hq, k _ H G (Al.here sub rfl)⟩
  · cases e
theorem call_listP : CallR X (.type "list") (rPn X.K X.mg listW) := by
  intro pins s σ H xs us Q I r h
  obtain ⟨G, ds, w, sub, ra, e, k⟩ := h
  unfold listW at e
  split at e
  · have e' := Option.some.inj e
    subst e'
    obtain ⟨v, rfl, p, ys, rfl, hq, rs⟩ := ra.one
    exact call_list_of pins s σ H _ us Q I r ⟨p, ys, rfl, .inr (sqT_mono sub hq), fun l hl => k _ _ _ (Al.lst sub hl rs)⟩
  · have e' := Option.some.inj e
    subst e'
    obtain ⟨v, rfl, p, ys, rfl, hq, rs⟩ := ra.one
    exact call_list_of pins s σ H _ us Q I r ⟨p, ys, rfl, .inl (SqL.of hq), fun l hl => k _ _ _ (Al.lst sub hl rs)⟩
  · have e' := Option.some.inj e
    subst e'
    obtain ⟨v, rfl, p, rfl, hq⟩ := ra.one
    exact call_list_of pins s σ H _ us Q I r ⟨p, _, rfl, .inl (sqL_mono sub hq), fun l hl => k _ _ _ (Al.lst sub hl (RVs.of_ints _))⟩
  · cases e
theorem call_tupleP : CallR X (.type "tuple") (rPn X.K X.mg tupleW) := by
  intro pins s σ H xs us Q I r h
  obtain ⟨G, ds, w, sub, ra, e, k⟩ := h
  unfold tupleW at e
  split at e
  · have e' := Option.some.inj e
    subst e'
    obtain ⟨v, rfl, p, ys, rfl, hq, rs⟩ := ra.one
    exact call_tuple_of pins s σ H _ us Q I r ⟨p, ys, rfl, .inr ⟨sqT_mono sub hq, k _ H G (Al.here sub ⟨p, ys, rfl, hq, rs⟩)⟩⟩
  · have e' := Option.some.inj e
    subst e'
    obtain ⟨v, rfl, p, ys, rfl, hq, rs⟩ := ra.one
    exact call_tuple_of pins s σ H _ us Q I r ⟨p, ys, rfl, .inl ⟨SqL.of hq, fun l hl => k _ _ _ (Al.tup sub hl rs)⟩⟩
  · cases e
theorem call_reprP (hg : X.A.guards = some []) (hu : X.A.units + 200 < cLine) : CallR X (.builtin "repr") (rPn X.K X.mg reprW) := by
  intro pins s σ H xs us Q I r h
  obtain ⟨G, ds, w, sub, ra, e, k⟩ := h
  unfold reprW at e
  split at e
  · split at e
    · rename_i d p hp
      split at e
      · rename_i hs
        have e' := Option.some.inj e
        subst e'
        obtain ⟨v, rfl, rv⟩ := ra.one
        obtain ⟨u, rfl, ru⟩ := vals1 r
        obtain ⟨as, rd, hn⟩ := RH.reads I sub hp rv ru
        have hl := canShow_len hs
        have hs2 := hs
        unfold canShow at hs2
        simp only [Bool.and_eq_true, decide_eq_true_eq, Bool.or_eq_true, Bool.not_eq_true'] at hs2
        obtain ⟨⟨⟨h1, h2⟩, h3⟩, h4⟩ := hs2
        have hsh := (rOk_ok p h1).1
        have hsm : p.hasDict = true → sysModules ∉ as := fun z => by
          rcases h4 with h4 | h4
          · rw [z] at h4; cases h4
          · exact hn h4
        have q := k (.str p.shown) H G (Al.here sub rfl)
        cases rd with
        | none => exact PySem.P.repr_of_none ⟨.str _, H, I.tok _, ⟨_, rfl⟩, q⟩
        | bool b => exact PySem.P.repr_of_bool ⟨.str _, H, I.tok _, ⟨_, rfl⟩, q⟩
        | int i t => exact PySem.P.repr_of_int (of_decide_eq_true h1) ⟨.str _, H, I.tok _, ⟨_, rfl⟩, q⟩
        | str x t => exact PySem.P.repr_of_str ⟨.str _, H, I.tok _, ⟨_, rfl⟩, q⟩ hl
        | list a1 a2 a3 a4 => exact repr_of_reads' (Reads.list a1 a2 a3 a4) hsh hsm hg (by omega) (fun _ _ z => z) (fun h' u tk hk => ⟨.str _, H, I.kept hk, ⟨u, rfl⟩, q⟩) hl
        | tuple a1 a2 a3 a4 => exact repr_of_reads' (Reads.tuple a1 a2 a3 a4) hsh hsm hg (by omega) (fun _ _ z => z) (fun h' u tk hk => ⟨.str _, H, I.kept hk, ⟨u, rfl⟩, q⟩) hl
        | dict a1 a2 a3 a4 a5 => exact repr_of_reads' (Reads.dict a1 a2 a3 a4 a5) hsh hsm hg (by omega) (fun _ _ z => z) (fun h' u tk hk => ⟨.str _, H, I.kept hk, ⟨u, rfl⟩, q⟩) hl
      · cases e
    · cases e
  · cases e
end
end FL
set_option Elab.async false
set_option linter.all false
set_option maxRecDepth 100000
set_option maxHeartbeats 2000000
namespace FL
open PySem PySem.Spec L2
open PyProof.Rows hiding St
inductive Fl where
  | nx | ret (w : W) | brk | cont
def GoS (K : PySem.W.Frag) (mg : Str → Option Value) (Wx : WG) (io : List Nat) (σ : St) (ρ : Rho) (H G : Hp) (r : Res Fl) (D : Ends) : Prop :=
  match r with
  | .ok .nx ρ' => ∀ σ' H' G', Rel K mg Wx.fl σ' ρ' H' G' → Fr io σ ρ H G σ' ρ' H' G' → D.nx σ' H'
  | .ok .brk ρ' => ∀ σ' H' G', Rel K mg Wx.fl σ' ρ' H' G' → Fr io σ ρ H G σ' ρ' H' G' → D.bk σ' H'
  | .ok .cont ρ' => ∀ σ' H' G', Rel K mg Wx.fl σ' ρ' H' G' → Fr io σ ρ H G σ' ρ' H' G' → D.ct σ' H'
  | .ok (.ret w) ρ' => ∀ v σ' H' G', Rel K mg Wx.fl σ' ρ' H' G' → Fr io σ ρ H G σ' ρ' H' G' → RR K mg σ ρ H σ' ρ' H' G' v w → D.rt v H'
  | .exc c fs ρ' => ∀ cls od σ' H' G', Rel K mg Wx.fl σ' ρ' H' G' → Fr io σ ρ H G σ' ρ' H' G' → RX K mg H' G' cls od c fs → Wx.w cls od σ' H'
  | .bad => False
def tS (K : PySem.W.Frag) (mg : Str → Option Value) (Wx : WG) (io : List Nat) (m : M Fl) : TS := fun D σ H => ∃ ρ G, Rel K mg Wx.fl σ ρ H G ∧ GoS K mg Wx io σ ρ H G (m ρ) D
abbrev PMS (X : Cx) (Wx : WG) (io : List Nat) (st : Stmt) (m : M Fl) : Prop := PS X st (tS X.K X.mg Wx io m)
abbrev PMSs (X : Cx) (Wx : WG) (io : List Nat) (st : List Stmt) (m : M Fl) : Prop := PSs X st (tS X.K X.mg Wx io m)
section
variable {K : PySem.W.Frag} {mg : Str → Option Value} {Wx : WG} {io : List Nat} {σ σ1 σ2 : St} {ρ ρ1 ρ2 : Rho} {H H1 H2 G G1 G2 : Hp} {Q : VK} {En : Ends}
theorem GoS.shift {r : Res Fl} (f : Fr io σ ρ H G σ1 ρ1 H1 G1) (h : GoS K mg Wx io σ ρ H G r En) : GoS K mg Wx io σ1 ρ1 H1 G1 r En := by
  cases r with
  | ok w ρ' =>
    cases w with
    | nx => exact fun σ' H' G' R F => h σ' H' G' R (f.trans F)
    | brk => exact fun σ' H' G' R F => h σ' H' G' R (f.trans F)
    | cont => exact fun σ' H' G' R F => h σ' H' G' R (f.trans F)
    | ret w => exact fun v σ' H' G' R F r => h v σ' H' G' R (f.trans F) (RR.back f F.grow r)
  | exc c fs ρ' => exact fun cls od σ' H' G' R F r => h cls od σ' H' G' R (f.trans F) r
  | bad => exact h
/-- an expression's part within a statement: exceptions -/
theorem exc_up {c : Str} {fs : List (Str × FL.D)} {ρ' : Rho} (h : GoS K mg Wx io σ ρ H G (.exc c fs ρ') En) (Q : VK) : GoE K mg Wx σ ρ H G (.exc c fs ρ') Q :=
  fun cls od H' G' R F r => h cls od σ H' G' R F.io_nil r
theorem tM_bindS {m : M W} {f : W → M Fl} (R : Rel K mg Wx.fl σ ρ H G) (h : GoS K mg Wx io σ ρ H G ((m ρ).bind f) En) :
    tM K mg Wx m σ H fun v H1 => ∃ w ρ1 G1, Rel K mg Wx.fl σ ρ1 H1 G1 ∧ Fr io σ ρ H G σ ρ1 H1 G1 ∧ RR K mg σ ρ H σ ρ1 H1 G1 v w ∧ GoS K mg Wx io σ ρ H G (f w ρ1) En := by
  refine ⟨ρ, G, R, ?_⟩
  cases e : m ρ with
  | ok w ρ1 => rw [e] at h; exact fun v H' G' R' F' r => ⟨w, ρ1, G', R', F'.io_nil, r, h⟩
  | exc c fs ρ1 => rw [e] at h; exact exc_up h _
  | bad => rw [e] at h; exact h.elim
theorem tM_datS {m : M W} {f : FL.D → M Fl} (R : Rel K mg Wx.fl σ ρ H G) (h : GoS K mg Wx io σ ρ H G ((m ρ).dat f) En) :
    tM K mg Wx m σ H fun v H1 => ∃ x ρ1 G1, Rel K mg Wx.fl σ ρ1 H1 G1 ∧ RV K mg G1 x v ∧ Fr io σ ρ H G σ ρ1 H1 G1 ∧ GoS K mg Wx io σ ρ1 H1 G1 (f x ρ1) En := by
  refine ⟨ρ, G, R, ?_⟩
  cases e : m ρ with
  | ok w ρ1 =>
    rw [e] at h
    intro v H' G' R' F' r
    obtain ⟨G2, R2, F2, rv⟩ := keep_res R' F' r
    exact ⟨w.data, ρ1, G2, R2, rv, F2.io_nil, GoS.shift F2.io_nil h⟩
  | exc c fs ρ1 => rw [e] at h; exact exc_up h _
  | bad => rw [e] at h; exact h.elim
theorem tA_bindS {m : M A} {f : A → M Fl} (R : Rel K mg Wx.fl σ ρ H G) (h : GoS K mg Wx io σ ρ H G ((m ρ).bind f) En) :
    tA K mg Wx m σ H fun v H1 => ∃ a ρ1 G1, Rel K mg Wx.fl σ ρ1 H1 G1 ∧ RAt K mg σ G1 v a ∧ Fr io σ ρ H G σ ρ1 H1 G1 ∧ GoS K mg Wx io σ ρ1 H1 G1 (f a ρ1) En := by
  refine ⟨ρ, G, R, ?_⟩
  cases e : m ρ with
  | ok w ρ1 => rw [e] at h; exact fun v H' G' R' F' r => ⟨w, ρ1, G', R', r, F'.io_nil, GoS.shift F'.io_nil h⟩
  | exc c fs ρ1 => rw [e] at h; exact fun cls od H' G' R F r => h cls od σ H' G' R F.io_nil r
  | bad => rw [e] at h; exact h.elim
theorem tB2_bindS {m : M Bool} {f : Bool → M Fl} (R : Rel K mg Wx.fl σ ρ H G) (h : GoS K mg Wx io σ ρ H G ((m ρ).bind f) En) :
    tB2 K mg Wx m σ H fun b H1 => ∃ ρ1 G1, Rel K mg Wx.fl σ ρ1 H1 G1 ∧ Fr io σ ρ H G σ ρ1 H1 G1 ∧ GoS K mg Wx io σ ρ1 H1 G1 (f b ρ1) En := by
  refine ⟨ρ, G, R, ?_⟩
  cases e : m ρ with
  | ok w ρ1 => rw [e] at h; exact fun H' G' R' F' => ⟨ρ1, G', R', F'.io_nil, GoS.shift F'.io_nil h⟩
  | exc c fs ρ1 => rw [e] at h; exact fun cls od H' G' R F r => h cls od σ H' G' R F.io_nil r
  | bad => rw [e] at h; exact h.elim
/-- a slot is stored -/
theorem Rel.store {i : Nat} {v : V} {w : W} (R : Rel K mg fl σ1 ρ1 H1 G1) (F : Fr io σ ρ H G σ1 ρ1 H1 G1) (rw' : RW K mg H1 G1 v w) (ap : ∀ x a, w = .own x → v = .ref a → ¬ OwnS σ1 ρ1 a ∧ ∀ o, H a = some o → KP o → OwnS σ ρ a) (hi : i ∉ io) :
    Rel K mg fl (σ1.set i (some v)) (ρ1.set i (some w)) H1 G1 ∧ Fr io σ ρ H G (σ1.set i (some v)) (ρ1.set i (some w)) H1 G1 := by
  have at_ : ∀ (j : Nat) (u : W), (ρ1.set i (some w))[j]? = some (some u) → (j = i ∧ u = w ∧ i < ρ1.length) ∨ (j ≠ i ∧ ρ1[j]? = some (some u)) := fun j u h => by
    by_cases hj : j = i
    · subst hj
      by_cases hl : j < ρ1.length
      · rw [List.getElem?_set_self hl] at h
        cases h
        exact .inl ⟨rfl, rfl, hl⟩
      · rw [List.getElem?_eq_none (by rw [List.length_set]; omega)] at h
        cases h
    · rw [List.getElem?_set_ne (Ne.symm hj)] at h
      exact .inr ⟨hj, h⟩
  have sl : ∀ j, j ≠ i → (σ1.set i (some v))[j]? = σ1[j]? := fun j hj => List.getElem?_set_ne (Ne.symm hj)
  have si : i < ρ1.length → (σ1.set i (some v))[i]? = some (some v) := fun hl => List.getElem?_set_self (by rw [← R.len]; exact hl)
  refine ⟨⟨by rw [List.length_set, List.length_set]; exact R.len, R.sub, fun j u hu => ?_, fun j k x y u h1 h2 h3 h4 => ?_, R.floor, R.tabs, R.ntb⟩, ⟨F.grow, fun b o hb nt hg hn => ?_, fun j hj => ?_, by rw [List.length_set]; exact F.len⟩⟩
  · rcases at_ j u hu with ⟨rfl, rfl, hl⟩ | ⟨hj, hu'⟩
    · exact ⟨v, si hl, rw'⟩
    · rw [sl j hj]
      exact R.slot j u hu'
  · rcases at_ j _ h1 with ⟨ej, e1, hl⟩ | ⟨hj, h1'⟩
    · rcases at_ k _ h2 with ⟨ek, _, _⟩ | ⟨hk, h2'⟩
      · rw [ej, ek]
      · exfalso
        subst ej e1
        rw [si hl] at h3
        have ev : v = u := by simpa using h3
        subst ev
        rw [sl k hk] at h4
        obtain ⟨a, ea, _⟩ := rw'
        exact (ap x a rfl ea).1 ⟨k, y, h2', by rw [h4, ea]⟩
    · rcases at_ k _ h2 with ⟨ek, e2, hl⟩ | ⟨hk, h2'⟩
      · exfalso
        subst ek e2
        rw [si hl] at h4
        have ev : v = u := by simpa using h4
        subst ev
        rw [sl j hj] at h3
        obtain ⟨a, ea, _⟩ := rw'
        exact (ap y a rfl ea).1 ⟨j, x, h1', by rw [h3, ea]⟩
      · rw [sl j hj] at h3
        rw [sl k hk] at h4
        exact R.dis j k x y u h1' h2' h3 h4
  · obtain ⟨k1, k2, k3⟩ := F.keep b o hb nt hg hn
    refine ⟨k1, k2, fun ⟨j, x, h1, h2⟩ => ?_⟩
    rcases at_ j _ h1 with ⟨ej, e1, hl⟩ | ⟨hj, h1'⟩
    · subst ej e1
      rw [si hl] at h2
      have ev : v = .ref b := by simpa using h2
      exact hn ((ap x b rfl ev).2 o hb nt)
    · rw [sl j hj] at h2
      exact k3 ⟨j, x, h1', h2⟩
  · have hne : j ≠ i := fun e => hi (e ▸ hj)
    rw [sl j hne]
    exact F.fix j hj
/-- a slot is let go -/
theorem Rel.drop {i : Nat} (R : Rel K mg fl σ1 ρ1 H1 G1) (F : Fr io σ ρ H G σ1 ρ1 H1 G1) : Rel K mg fl σ1 (ρ1.set i none) H1 G1 ∧ Fr io σ ρ H G σ1 (ρ1.set i none) H1 G1 := by
  have at_ : ∀ (j : Nat) (u : W), (ρ1.set i none)[j]? = some (some u) → j ≠ i ∧ ρ1[j]? = some (some u) := fun j u h => by
    by_cases hj : j = i
    · subst hj
      by_cases hl : j < ρ1.length
      · rw [List.getElem?_set_self hl] at h
        cases h
      · rw [List.getElem?_eq_none (by rw [List.length_set]; omega)] at h
        cases h
    · rw [List.getElem?_set_ne (Ne.symm hj)] at h
      exact ⟨hj, h⟩
  refine ⟨⟨by rw [List.length_set]; exact R.len, R.sub, fun j u hu => R.slot j u (at_ j u hu).2, fun j k x y u h1 h2 h3 h4 => R.dis j k x y u (at_ j _ h1).2 (at_ k _ h2).2 h3 h4, R.floor, R.tabs, R.ntb⟩, ⟨F.grow, fun b o hb nt hg hn => ?_, F.fix, F.len⟩⟩
  obtain ⟨k1, k2, k3⟩ := F.keep b o hb nt hg hn
  exact ⟨k1, k2, fun ⟨j, x, h1, h2⟩ => k3 ⟨j, x, (at_ j _ h1).2, h2⟩⟩
end
def Res.flow (r : Res Fl) (f : M Fl) : Res Fl :=
  match r with
  | .ok .nx ρ => f ρ
  | r => r
def nextM : M Fl := fun ρ => .ok .nx ρ
def seqM (m n : M Fl) : M Fl := fun ρ => (m ρ).flow n
def dropM (m : M W) : M Fl := fun ρ => (m ρ).bind fun _ ρ => .ok .nx ρ
def retM (m : M W) : M Fl := fun ρ => (m ρ).bind fun w ρ => .ok (.ret w) ρ
def retS (io : List Nat) (i : Nat) : M Fl := fun ρ =>
  match ρ[i]? with
  | some (some (.d x)) => .ok (.ret (.d x)) ρ
  | some (some (.own x)) => if io.contains i = true then .bad else .ok (.ret (.own x)) (ρ.set i none)
  | _ => .bad
def retN : M Fl := fun ρ => .ok (.ret (.d .non)) ρ
def ifS (t : M Bool) (m n : M Fl) : M Fl := fun ρ => (t ρ).bind fun b ρ => if b = true then m ρ else n ρ
def setM (io : List Nat) (i : Nat) (m : M W) : M Fl := fun ρ => (m ρ).bind fun w ρ => if io.contains i = true then .bad else .ok .nx (ρ.set i (some w))
section
variable {X : Cx} {Wx : WG} {io : List Nat} {e a b c : Expr} {st : Stmt} {sts : List Stmt} {pos : Pos} {m : M W} {s n : M Fl}
theorem pms_nil : PMSs X Wx io [] nextM := pssImp pss_nil fun D σ H h => by
  obtain ⟨ρ, G, R, h⟩ := h
  exact h σ H G R Fr.refl
theorem pms_cons (h1 : PMS X Wx io st s) (h2 : PMSs X Wx io sts n) : PMSs X Wx io (st :: sts) (seqM s n) := by
  refine pssImp (pss_cons h1 h2) fun D σ H h => ?_
  obtain ⟨ρ, G, R, h⟩ := h
  refine ⟨ρ, G, R, ?_⟩
  unfold seqM at h
  cases e : s ρ with
  | ok f ρ1 =>
    rw [e] at h
    cases f with
    | nx => exact fun σ' H' G' R' F' => ⟨ρ1, G', R', GoS.shift F' h⟩
    | brk => exact h
    | cont => exact h
    | ret w => exact h
  | exc c fs ρ1 => rw [e] at h; exact h
  | bad => rw [e] at h; exact h
theorem pms_pass : PMS X Wx io (.Pass pos) nextM := psImp ps_pass fun D σ H h => by
  obtain ⟨ρ, G, R, h⟩ := h
  exact h σ H G R Fr.refl
theorem pms_break : PMS X Wx io (.Break pos) (fun ρ => .ok .brk ρ) := psImp ps_break fun D σ H h => by
  obtain ⟨ρ, G, R, h⟩ := h
  exact h σ H G R Fr.refl
theorem pms_continue : PMS X Wx io (.Continue pos) (fun ρ => .ok .cont ρ) := psImp ps_continue fun D σ H h => by
  obtain ⟨ρ, G, R, h⟩ := h
  exact h σ H G R Fr.refl
theorem pms_expr (he : PM X Wx e m) (hs : swapsWith e none pos.line X.env = pure false) : PMS X Wx io (.Expr e pos) (dropM m) := psImp (ps_expr he hs) fun D σ H h => by
  obtain ⟨ρ, G, R, h⟩ := h
  exact tM_mono (tM_bindS R h) fun v H1 ⟨w, ρ1, G1, R1, F1, r, k⟩ => k σ H1 G1 R1 F1
theorem pms_ret (he : PM X Wx e m) : PMS X Wx io (.Return (some e) pos) (retM m) := psImp (ps_ret he) fun D σ H h => by
  obtain ⟨ρ, G, R, h⟩ := h
  exact tM_mono (tM_bindS R h) fun v H1 ⟨w, ρ1, G1, R1, F1, r, k⟩ => k v σ H1 G1 R1 F1 r
theorem pms_retN : PMS X Wx io (.Return none pos) retN := psImp ps_retN fun D σ H h => by
  obtain ⟨ρ, G, R, h⟩ := h
  exact h .non σ H G R Fr.refl ⟨rfl, fun _ _ z => nomatch z⟩
theorem pms_retS {i : Nat} {x : Str} {p : Pos} (hN : X.N[i]? = some x) (hv : Vis X.env.scope x) (hd : (x == ("__debug__" : Str)) = false) (hcd : (x == ("__classdict__" : Str)) = false) : PMS X Wx io (.Return (some (.Name x p)) pos) (retS io i) := by
  refine psImp (ps_ret (pe_var hN hv hd hcd)) fun D σ H h => ?_
  obtain ⟨ρ, G, R, h⟩ := h
  unfold retS at h
  split at h
  · rename_i y hy
    obtain ⟨v, s, q⟩ := R.slot i _ hy
    exact ⟨v, s, h v σ H G R Fr.refl ⟨q, fun _ _ z => nomatch z⟩⟩
  · rename_i y hy
    split at h
    · exact h.elim
    · obtain ⟨v, s, q⟩ := R.slot i _ hy
      obtain ⟨R2, F2⟩ := R.drop (io := io) (i := i) Fr.refl
      refine ⟨v, s, h v σ H G R2 F2 ⟨q, fun z a e1 e2 => ⟨fun ⟨j, t, h1, h2⟩ => ?_, fun o ho _ => ⟨i, y, hy, by rw [s, e2]⟩⟩⟩⟩
      have hj : j ≠ i := fun ej => by
        subst ej
        by_cases hl : j < ρ.length
        · rw [List.getElem?_set_self hl] at h1
          cases h1
        · rw [List.getElem?_eq_none (by rw [List.length_set]; omega)] at h1
          cases h1
      rw [List.getElem?_set_ne (Ne.symm hj)] at h1
      exact hj (R.dis j i t y v h1 hy (by rw [h2, e2]) s)
  · exact h.elim
theorem pms_if {t : M Bool} {sts2 : List Stmt} (ht : PMB X Wx c t) (h1 : PMSs X Wx io sts s) (h2 : PMSs X Wx io sts2 n) : PMS X Wx io (.If c sts sts2 pos) (ifS t s n) := by
  refine psImp (ps_if ht h1 h2) fun D σ H h => ?_
  obtain ⟨ρ, G, R, h⟩ := h
  refine tB2_mono (tB2_bindS R h) fun k H1 ⟨ρ1, G1, R1, F1, g⟩ => ?_
  cases k with
  | true => exact iteT ⟨ρ1, G1, R1, g⟩
  | false => exact iteF ⟨ρ1, G1, R1, g⟩
theorem not_io {io : List Nat} {i : Nat} (h : ¬ (io.contains i = true)) : i ∉ io := fun z => h (by simpa using z)
theorem pms_set {i : Nat} {x : Str} {p : Pos} (hN : X.N.Nodup) (hi : X.N[i]? = some x) (hx : Loc X.env.scope x) (he : PM X Wx e m) (hs : swapsWith e (some (.Name x p)) pos.line X.env = pure false) (hf : X.fn x = true ∨ X.env.scope.names.lookup x = some .local) :
    PMS X Wx io (.Assign [.Name x p] e pos) (setM io i m) := by
  refine psImp (ps_set hN hi hx he hs hf) fun D σ H h => ?_
  obtain ⟨ρ, G, R, h⟩ := h
  refine tM_mono (tM_bindS (io := io) R h) fun v H1 ⟨w, ρ1, G1, R1, F1, r, k⟩ => ?_
  split at k
  · exact k.elim
  · rename_i hn
    obtain ⟨R2, F2⟩ := R1.store F1 r.1 (fun x a e1 e2 => r.2 x a e1 e2) (not_io hn)
    exact k _ H1 G1 R2 F2
def tG (K : PySem.W.Frag) (mg : Str → Option Value) (fl : Flr) (io : List Nat) (g : D → M Unit) : TG := fun v σ H Q =>
  ∃ ρ G d, Rel K mg fl σ ρ H G ∧ RV K mg G d v ∧ match g d ρ with
    | .ok _ ρ' => ∀ σ' H' G', Rel K mg fl σ' ρ' H' G' → Fr io σ ρ H G σ' ρ' H' G' → Q σ' H'
    | _ => False
def tGs (K : PySem.W.Frag) (mg : Str → Option Value) (fl : Flr) (io : List Nat) (g : List D → M Unit) : TGs := fun vs σ H Q =>
  ∃ ρ G ds, Rel K mg fl σ ρ H G ∧ RVs K mg G ds vs ∧ match g ds ρ with
    | .ok _ ρ' => ∀ σ' H' G', Rel K mg fl σ' ρ' H' G' → Fr io σ ρ H G σ' ρ' H' G' → Q σ' H'
    | _ => False
abbrev PMG (X : Cx) (fl : Flr) (io : List Nat) (tg : Expr) (g : D → M Unit) : Prop := PG X tg (tG X.K X.mg fl io g)
abbrev PMGs (X : Cx) (fl : Flr) (io : List Nat) (tg : List Expr) (g : List D → M Unit) : Prop := PGs X tg (tGs X.K X.mg fl io g)
theorem pgImp {X : Cx} {tg : Expr} {t t' : TG} (h : PG X tg t) (w : ∀ v σ H Q, t' v σ H Q → t v σ H Q) : PG X tg t' := ⟨fun pins s σ H v u Q I r q => h.run pins s σ H v u Q I r (w v σ H Q q)⟩
theorem pgsImp {X : Cx} {tg : List Expr} {t t' : TGs} (h : PGs X tg t) (w : ∀ v σ H Q, t' v σ H Q → t v σ H Q) : PGs X tg t' := ⟨fun pins s σ H v u Q I r q => h.run pins s σ H v u Q I r (w v σ H Q q)⟩
def nameG (io : List Nat) (i : Nat) : D → M Unit := fun d ρ => if io.contains i = true then .bad else .ok () (ρ.set i (some (.d d)))
def nilG : List D → M Unit := fun ds ρ => match ds with
  | [] => .ok () ρ
  | _ => .bad
def consG (g : D → M Unit) (r : List D → M Unit) : List D → M Unit := fun ds ρ => match ds with
  | [] => .bad
  | d :: ds => (g d ρ).bind fun _ ρ => r ds ρ
def tupG (n : Nat) (g : List D → M Unit) : D → M Unit := fun d ρ => match d with
  | .tup ds => if ds.length = n then g ds ρ else .bad
  | _ => .bad
theorem pmg_name {i : Nat} {x : Str} {p : Pos} (hN : X.N.Nodup) (hi : X.N[i]? = some x) (hx : Loc X.env.scope x) (hf : X.fn x = true ∨ X.env.scope.names.lookup x = some .local) : PMG X fl io (.Name x p) (nameG io i) := by
  refine pgImp (pg_name hN hi hx hf) fun v σ H Q h => ?_
  obtain ⟨ρ, G, d, R, rv, h⟩ := h
  unfold nameG at h
  split at h
  · rename_i u ρ' e
    split at e
    · cases e
    · rename_i hn
      cases e
      obtain ⟨R2, F2⟩ := R.store (σ := σ) (ρ := ρ) (H := H) (G := G) (io := io) (i := i) (v := v) (w := .d d) Fr.refl rv (fun x a z => nomatch z) (not_io hn)
      exact h _ H G R2 F2
  · exact h.elim
theorem pmgs_nil : PMGs X fl io [] nilG := by
  refine pgsImp pgs_nil fun v σ H Q h => ?_
  obtain ⟨ρ, G, ds, R, rv, h⟩ := h
  unfold nilG at h
  split at h
  · rename_i u ρ' e
    split at e
    · cases e
      exact ⟨rv, h σ H G R Fr.refl⟩
    · cases e
  · exact h.elim
theorem pmgs_cons {es : List Expr} {g : D → M Unit} {r : List D → M Unit} (h1 : PMG X fl io e g) (h2 : PMGs X fl io es r) (hs : (assignEach (e :: es) X.env).map (·.2) = assign e X.env :: (assignEach es X.env).map (·.2)) : PMGs X fl io (e :: es) (consG g r) := by
  refine pgsImp (pgs_cons h1 h2 hs) fun v σ H Q h => ?_
  obtain ⟨ρ, G, ds, R, rv, h⟩ := h
  cases ds with
  | nil => exact h.elim
  | cons d ds =>
    obtain ⟨y, ys, ev, ry, rys⟩ := rv
    refine ⟨y, ys, ev, ρ, G, d, R, ry, ?_⟩
    have h' : match ((g d ρ).bind fun _ ρ => r ds ρ) with
      | .ok _ ρ' => ∀ σ' H' G', Rel X.K X.mg fl σ' ρ' H' G' → Fr io σ ρ H G σ' ρ' H' G' → Q σ' H'
      | _ => False := h
    cases e1 : g d ρ with
    | ok u ρ1 =>
      rw [e1] at h'
      intro σ1 H1 G1 R1 F1
      refine ⟨ρ1, G1, ds, R1, RVs.mono F1.grow ds ys rys, ?_⟩
      have h2' : match r ds ρ1 with
        | .ok _ ρ' => ∀ σ' H' G', Rel X.K X.mg fl σ' ρ' H' G' → Fr io σ ρ H G σ' ρ' H' G' → Q σ' H'
        | _ => False := h'
      cases e2 : r ds ρ1 with
      | ok u2 ρ2 =>
        rw [e2] at h2'
        exact fun σ' H' G' R' F' => h2' σ' H' G' R' (F1.trans F')
      | exc c fs ρ2 => rw [e2] at h2'; exact h2'
      | bad => rw [e2] at h2'; exact h2'
    | exc c fs ρ2 => rw [e1] at h'; exact h'
    | bad => rw [e1] at h'; exact h'
theorem pmg_tup {es : List Expr} {k n : Nat} {g : List D → M Unit} (hc : X.calm = true) (h : PMGs X fl io es g) (hn : (assignEach es X.env).length = n) (hst : (assignEach es X.env).findIdx? (·.1) = none) : PMG X fl io (.Tuple es k pos) (tupG n g) := by
  refine pgImp (pg_tup hc h hn hst) fun v σ H Q h => ?_
  obtain ⟨ρ, G, d, R, rv, h⟩ := h
  cases d with
  | tup ds =>
    obtain ⟨a, xs, ev, hq, rs⟩ := rv
    have h' : match (if ds.length = n then g ds ρ else Res.bad) with
      | .ok _ ρ' => ∀ σ' H' G', Rel X.K X.mg fl σ' ρ' H' G' → Fr io σ ρ H G σ' ρ' H' G' → Q σ' H'
      | _ => False := h
    by_cases hl : ds.length = n
    · rw [if_pos hl] at h'
      exact ⟨a, xs, ev, sqT_mono R.sub hq, by rw [← rs.length]; exact hl, ρ, G, ds, R, rs, h'⟩
    · rw [if_neg hl] at h'
      exact h'.elim
  | _ => exact h.elim
/-- target = e -/
def asgM (g : D → M Unit) (m : M W) : M Fl := fun ρ => (m ρ).dat fun x ρ => (g x ρ).bind fun _ ρ => .ok .nx ρ
theorem pms_asg {tg : Expr} {g : D → M Unit} (he : PM X Wx e m) (hg : PMG X Wx.fl io tg g) (hs : swapsWithSole [tg] e pos.line X.env = pure false) (hw : swappedStores [tg] e X.env = pure none) (h1 : (assignEach [tg] X.env).map (·.2) = [assign tg X.env])
    (hx : ∀ d ρ c fs ρ', g d ρ ≠ .exc c fs ρ') : PMS X Wx io (.Assign [tg] e pos) (asgM g m) := by
  refine psImp (ps_asg he hg hs hw h1) fun D σ H h => ?_
  obtain ⟨ρ, G, R, h⟩ := h
  refine tM_mono (tM_datS R h) fun v H1 ⟨x, ρ1, G1, R1, rv, F1, k⟩ => ⟨ρ1, G1, x, R1, rv, ?_⟩
  have k' : GoS X.K X.mg Wx io σ ρ1 H1 G1 ((g x ρ1).bind fun _ ρ => .ok .nx ρ) D := k
  cases e1 : g x ρ1 with
  | ok u ρ2 =>
    rw [e1] at k'
    exact fun σ' H' G' R' F' => k' σ' H' G' R' F'
  | exc c fs ρ2 => exact absurd e1 (hx _ _ _ _ _)
  | bad => rw [e1] at k'; exact k'
def Res.loop (r : Res Fl) (f : M Fl) : Res Fl :=
  match r with
  | .ok .nx ρ => f ρ
  | .ok .cont ρ => f ρ
  | .ok .brk ρ => .ok .nx ρ
  | r => r
def whileM (t : M Bool) (b : M Fl) : Nat → M Fl
  | 0 => fun _ => .bad
  | n + 1 => fun ρ => (t ρ).bind fun c ρ => if c = true then (b ρ).loop (whileM t b n) else .ok .nx ρ
theorem pms_while {t : M Bool} {n : Nat} (hp : PassesOwn (model X.prog X.w) X.A X.env X.xe) (hc : PMB X Wx c t) (hb : PMSs X Wx io sts s) : PMS X Wx io (.While c sts [] pos) (whileM t s n) := by
  refine psImp (ps_while hp hc hb) fun D σ H h => ?_
  refine ⟨fun k σ H => ∃ ρ G, Rel X.K X.mg Wx.fl σ ρ H G ∧ GoS X.K X.mg Wx io σ ρ H G (whileM t s k ρ) D, ⟨n, h⟩, fun k σ H h => ?_⟩
  obtain ⟨ρ, G, R, h⟩ := h
  cases k with
  | zero => exact h.elim
  | succ k =>
    refine tB2_mono (tB2_bindS R h) fun cc H1 ⟨ρ1, G1, R1, F1, g⟩ => ?_
    cases cc with
    | true =>
      refine iteT ⟨fun σ' H' => ∃ ρ G, Rel X.K X.mg Wx.fl σ' ρ H' G ∧ GoS X.K X.mg Wx io σ' ρ H' G (whileM t s k ρ) D, fun σ' H' h' => ⟨k, Nat.lt_succ_self k, h'⟩, ρ1, G1, R1, ?_⟩
      have g' : GoS X.K X.mg Wx io σ ρ1 H1 G1 ((s ρ1).loop (whileM t s k)) D := g
      cases e : s ρ1 with
      | ok f ρ2 =>
        rw [e] at g'
        cases f with
        | nx => exact fun σ' H' G' R' F' => ⟨ρ2, G', R', GoS.shift F' g'⟩
        | cont => exact fun σ' H' G' R' F' => ⟨ρ2, G', R', GoS.shift F' g'⟩
        | brk => exact fun σ' H' G' R' F' => g' σ' H' G' R' F'
        | ret w => exact g'
      | exc c fs ρ2 => rw [e] at g'; exact g'
      | bad => rw [e] at g'; exact g'
    | false => exact iteF (g σ H1 G1 R1 Fr.refl)
/-- the walk J gives the data ds, one after another, as long as what is kept at G0 stands -/
structure WalkD (K : PySem.W.Frag) (mg : Str → Option Value) (J : It) (ds : List D) (G0 : Hp) : Prop where
  ex : ∃ (n : Nat) (Gp : Hp → Prop) (Y : Nat → Hp → V → Hp → Prop), Walk J n Gp Y ∧ n = ds.length ∧ (∀ H, SubH G0 H → Gp H) ∧
    ∀ i H x H' G, SubH G0 G → SubH G H → i < n → Y i H x H' → ∃ d G', ds[i]? = some d ∧ Al K mg H G H' G' x (.d d)
def GoI (K : PySem.W.Frag) (mg : Str → Option Value) (Wx : WG) (σ : St) (ρ : Rho) (H G : Hp) (r : Res (List D)) (Rk : It → Hp → Prop) : Prop :=
  match r with
  | .ok ds ρ' => ∀ J H' G', Rel K mg Wx.fl σ ρ' H' G' → Fr [] σ ρ H G σ ρ' H' G' → WalkD K mg J ds G' → Rk J H'
  | .exc c fs ρ' => ∀ cls od H' G', Rel K mg Wx.fl σ ρ' H' G' → Fr [] σ ρ H G σ ρ' H' G' → RX K mg H' G' cls od c fs → Wx.w cls od σ H'
  | .bad => False
def tI (K : PySem.W.Frag) (mg : Str → Option Value) (Wx : WG) (m : M (List D)) : TI := fun σ H Rk => ∃ ρ G, Rel K mg Wx.fl σ ρ H G ∧ GoI K mg Wx σ ρ H G (m ρ) Rk
abbrev PMI (X : Cx) (Wx : WG) (tg it : Expr) (m : M (List D)) : Prop := PI X tg it (tI X.K X.mg Wx m)
theorem piImp {X : Cx} {tg it : Expr} {t t' : TI} (h : PI X tg it t) (w : ∀ σ H R, t' σ H R → t σ H R) : PI X tg it t' := ⟨fun pins s σ H R I q => h.run pins s σ H R I (w σ H R q)⟩
def forM (g : D → M Unit) (b : M Fl) : List D → M Fl
  | [] => nextM
  | x :: xs => fun ρ => (g x ρ).bind fun _ ρ => (b ρ).loop (forM g b xs)
def forS (mi : M (List D)) (g : D → M Unit) (b : M Fl) : M Fl := fun ρ => (mi ρ).bind fun ds ρ => forM g b ds ρ
theorem pms_for {it tg : Expr} {mi : M (List D)} {g : D → M Unit} (hp : PassesOwn (model X.prog X.w) X.A X.env X.xe) (hc : X.calm = true) (hi : PMI X Wx tg it mi) (hg : PMG X Wx.fl io tg g) (hb : PMSs X Wx io sts s)
    (hs : ∀ x, foldedSetIterable it X.env x = pure x) (hx : ∀ d ρ c fs ρ', g d ρ ≠ .exc c fs ρ') : PMS X Wx io (.For tg it sts [] pos) (forS mi g s) := by
  refine psImp (ps_for hp hc hi hg hb hs) fun D σ H h => ?_
  obtain ⟨ρ, G, R, h⟩ := h
  refine ⟨ρ, G, R, ?_⟩
  unfold forS at h
  cases e : mi ρ with
  | exc c fs ρ1 => rw [e] at h; exact fun cls od H' G' R F r => h cls od σ H' G' R F.io_nil r
  | bad => rw [e] at h; exact h.elim
  | ok ds ρ1 =>
    rw [e] at h
    intro J H1 G1 R1 F1 Wd
    have h1 : GoS X.K X.mg Wx io σ ρ1 H1 G1 (forM g s ds ρ1) D := GoS.shift F1.io_nil h
    obtain ⟨n, Gp, Y, wk, en, hG, hY⟩ := Wd.ex
    refine for_it wk (fun i σ' H' => ∃ ρ' G', Rel X.K X.mg Wx.fl σ' ρ' H' G' ∧ SubH G1 G' ∧ GoS X.K X.mg Wx io σ' ρ' H' G' (forM g s (ds.drop i) ρ') D) ⟨ρ1, G1, R1, SubH.refl, by rw [List.drop_zero]; exact h1⟩ (fun i σ' H' _ ⟨ρ', G', R', sg, _⟩ => hG H' (sg.trans R'.sub)) ?_ ?_
    · intro i x σ' H' H2 hin ⟨ρ', G', R', sg, k⟩ y
      obtain ⟨d, G2, hd, al⟩ := hY i H' x H2 G' sg R'.sub hin y
      obtain ⟨R2, F2, rv⟩ := R'.al al
      have hlt : i < ds.length := by omega
      have ed : ds.drop i = d :: ds.drop (i + 1) := by
        rw [List.drop_eq_getElem_cons hlt]
        congr 1
        rw [List.getElem?_eq_getElem hlt] at hd
        exact Option.some.inj hd
      rw [ed] at k
      have k2 : GoS X.K X.mg Wx io σ' ρ' H2 G2 ((g d ρ').bind fun _ ρ => (s ρ).loop (forM g s (ds.drop (i + 1)))) D := GoS.shift F2.io_nil k
      refine ⟨ρ', G2, d, R2, rv.1, ?_⟩
      cases eg : g d ρ' with
      | exc c fs ρ2 => exact absurd eg (hx _ _ _ _ _)
      | bad => rw [eg] at k2; exact k2
      | ok u ρ2 =>
        rw [eg] at k2
        intro σ3 H3 G3 R3 F3
        have k3 : GoS X.K X.mg Wx io σ3 ρ2 H3 G3 ((s ρ2).loop (forM g s (ds.drop (i + 1)))) D := GoS.shift F3 k2
        refine ⟨ρ2, G3, R3, ?_⟩
        have sg3 : SubH G1 G3 := (sg.trans F2.grow).trans F3.grow
        cases es : s ρ2 with
        | ok f ρ4 =>
          rw [es] at k3
          cases f with
          | nx => exact fun σ5 H5 G5 R5 F5 => ⟨ρ4, G5, R5, sg3.trans F5.grow, GoS.shift F5 k3⟩
          | cont => exact fun σ5 H5 G5 R5 F5 => ⟨ρ4, G5, R5, sg3.trans F5.grow, GoS.shift F5 k3⟩
          | brk => exact fun σ5 H5 G5 R5 F5 => k3 σ5 H5 G5 R5 F5
          | ret w => exact k3
        | exc c fs ρ4 => rw [es] at k3; exact k3
        | bad => rw [es] at k3; exact k3
    · intro σ' H' ⟨ρ', G', R', sg, k⟩
      rw [List.drop_eq_nil_of_le (by omega)] at k
      exact k σ' H' G' R' Fr.refl
end
end FL
set_option Elab.async false
set_option linter.all false
set_option maxRecDepth 100000
set_option maxHeartbeats 2000000
namespace FL
open PySem PySem.Spec L2
open PyProof.Rows hiding St
def signsD (z : Str) : List D := z.cps.toList.map fun c => .str ⟨#[c]⟩
def kD : Key → D
  | .inl i => .int i
  | .inr z => .str z
def itemsD : D → Option (List D)
  | .tup ds => some ds
  | .lst ds => some ds
  | .scr ns => some (ns.map .int)
  | .str z => some (signsD z)
  | .ldc kvs => some (kvs.map fun p => kD p.1)
  | _ => none
def iterM (m : M W) : M (List D) := fun ρ => (m ρ).dat fun d ρ => liftM (itemsD d) ρ
section
variable {K : PySem.W.Frag} {mg : Str → Option Value} {Wx : WG} {σ : St} {ρ : Rho} {H G : Hp}
theorem WalkD.lst {a : Addr} {ds : List D} {xs : List V} (hq : SqL K G a xs) (r : RVs K mg G ds xs) : WalkD K mg (Itl K a) ds G :=
  ⟨xs.length, fun H => SqL K H a xs, YAt xs, walk_list, r.length.symm, fun H s => sqL_mono s hq, fun i H x H' G' s1 s2 hi y => by
    obtain ⟨e1, e2⟩ := y
    subst e1
    have hl : i < ds.length := by rw [r.length]; exact hi
    obtain ⟨v, h1, h2⟩ := r.get (List.getElem?_eq_getElem hl)
    rw [e2] at h1
    cases h1
    exact ⟨_, G', List.getElem?_eq_getElem hl, Al.here s2 (RV.mono s1 _ _ h2)⟩⟩
theorem WalkD.tup {a : Addr} {ds : List D} {xs : List V} (hq : SqT K G a xs) (r : RVs K mg G ds xs) : WalkD K mg (Itt K a) ds G :=
  ⟨xs.length, fun H => SqT K H a xs, YAt xs, walk_tup, r.length.symm, fun H s => sqT_mono s hq, fun i H x H' G' s1 s2 hi y => by
    obtain ⟨e1, e2⟩ := y
    subst e1
    have hl : i < ds.length := by rw [r.length]; exact hi
    obtain ⟨v, h1, h2⟩ := r.get (List.getElem?_eq_getElem hl)
    rw [e2] at h1
    cases h1
    exact ⟨_, G', List.getElem?_eq_getElem hl, Al.here s2 (RV.mono s1 _ _ h2)⟩⟩
theorem RKs.key : ∀ {kvs : List (Key × D)} {ks : List (Key × V)} {i : Nat} {k : Key} {v : V}, RKs K mg G kvs ks → ks[i]? = some (k, v) → (kvs.map fun p => kD p.1)[i]? = some (kD k)
  | [], ks, i, k, v, r, h => by rw [show ks = [] from r] at h; simp at h
  | (k0, d) :: kvs, ks, i, k, v, ⟨y, ys, e, _, t⟩, h => by
    subst e
    cases i with
    | zero =>
      have h' : (k0, y) = (k, v) := by simpa using h
      cases h'
      rfl
    | succ i => simpa using RKs.key (i := i) t (by simpa using h)
theorem kD_ok {k : Key} : RV K mg G (kD k) (kV k) := by
  cases k <;> rfl
theorem WalkD.keys {a : Addr} {o : Obj} {kvs : List (Key × D)} {ks : List (Key × V)} (g : G a = some (.frz o (.dK ks))) (r : RKs K mg G kvs ks) : WalkD K mg (Itk a o ks) (kvs.map fun p => kD p.1) G :=
  ⟨ks.length, fun H => H a = some (.frz o (.dK ks)), _, walk_keys, by rw [List.length_map]; exact r.length.symm, fun H s => s _ _ g, fun i H x H' G' s1 s2 hi y => by
    obtain ⟨e1, k, v, e2, e3⟩ := y
    subst e1 e3
    exact ⟨kD k, G', r.key e2, Al.here s2 kD_ok⟩⟩
theorem WalkD.str {z : Str} : WalkD K mg (Its z) (signsD z) G :=
  ⟨z.cps.size, fun _ => True, _, walk_str, by simp [signsD], fun _ _ => True.intro, fun i H x H' G' s1 s2 hi y => by
    obtain ⟨e1, c, e2, e3⟩ := y
    subst e1 e3
    refine ⟨.str ⟨#[c]⟩, G', ?_, Al.here s2 rfl⟩
    unfold signsD
    rw [List.getElem?_map, Array.getElem?_toList, e2]
    rfl⟩
theorem WalkD.rng {lo : Int} {n : Nat} : WalkD K mg (Itr lo n) ((List.range n).map fun i => .int (lo + (i : Nat))) G :=
  ⟨n, fun _ => True, _, walk_range, by simp, fun _ _ => True.intro, fun i H x H' G' s1 s2 hi y => by
    obtain ⟨e1, e2⟩ := y
    subst e1 e2
    exact ⟨.int (lo + (i : Nat)), G', by simp [hi], Al.here s2 rfl⟩⟩
theorem WalkD.rngC {lo c : Int} {n : Nat} : WalkD K mg (Itc lo c n) ((List.range n).map fun i => .int (lo + (i : Nat) * c)) G :=
  ⟨n, fun _ => True, _, walk_rangeC, by simp, fun _ _ => True.intro, fun i H x H' G' s1 s2 hi y => by
    obtain ⟨e1, e2⟩ := y
    subst e1 e2
    exact ⟨.int (lo + (i : Nat) * c), G', by simp [hi], Al.here s2 rfl⟩⟩
theorem GoI.shift {r : Res (List D)} {Rk : It → Hp → Prop} {ρ1 : Rho} {H1 G1 : Hp} (f : Fr [] σ ρ H G σ ρ1 H1 G1) (h : GoI K mg Wx σ ρ H G r Rk) : GoI K mg Wx σ ρ1 H1 G1 r Rk := by
  cases r with
  | ok w ρ' => exact fun J H' G' R F w => h J H' G' R (f.trans F) w
  | exc c fs ρ' => exact fun cls od H' G' R F r => h cls od H' G' R (f.trans F) r
  | bad => exact h
/-- a walked value, reckoned: what it is is known ahead -/
theorem tM_known {m : M W} {P : D → Prop} {Q : VK} (R : Rel K mg Wx.fl σ ρ H G) (hm : ∃ w ρ1, m ρ = .ok w ρ1 ∧ P w.data)
    (h : ∀ x v ρ1 H1 G1, P x → Rel K mg Wx.fl σ ρ1 H1 G1 → Fr [] σ ρ H G σ ρ1 H1 G1 → RV K mg G1 x v → (∃ w, m ρ = .ok w ρ1 ∧ w.data = x) → Q v H1) : tM K mg Wx m σ H Q := by
  refine ⟨ρ, G, R, ?_⟩
  obtain ⟨w, ρ1, e, p⟩ := hm
  rw [e]
  intro v H' G' R' F' r
  obtain ⟨G2, R2, F2, rv⟩ := keep_res R' F' r
  exact h w.data v ρ1 H' G2 p R2 F2 rv ⟨w, e, rfl⟩
end
theorem piOr {X : Cx} {tg e : Expr} {t1 t2 : TI} (h1 : PI X tg e t1) (h2 : PI X tg e t2) : PI X tg e (fun σ H R => t1 σ H R ∨ t2 σ H R) :=
  ⟨fun pins s σ H R I q => q.elim (h1.run pins s σ H R I) (h2.run pins s σ H R I)⟩
section
variable {X : Cx} {Wx : WG} {io : List Nat} {e a b c tg : Expr} {pos : Pos} {m : M W}
theorem pmi_data (he : PM X Wx e m) : PMI X Wx tg e (iterM m) := by
  refine piImp (piOr (pi_list he) (piOr (pi_tup he) (piOr (pi_str he) (pi_keys he)))) fun σ H Rk h => ?_
  obtain ⟨ρ, G, R, h⟩ := h
  cases em : m ρ with
  | bad =>
    unfold iterM at h
    rw [em] at h
    exact h.elim
  | exc c fs ρ1 =>
    unfold iterM at h
    rw [em] at h
    exact .inl ⟨ρ, G, R, by rw [em]; exact h⟩
  | ok w ρ1 =>
    have h1 : GoI X.K X.mg Wx σ ρ H G (liftM (itemsD w.data) ρ1) Rk := by
      unfold iterM at h
      rw [em] at h
      exact h
    unfold liftM at h1
    split at h1
    · rename_i items ei
      have fin : ∀ (J : It) (ρ2 : Rho) (H1 G1 : Hp), (∃ w', m ρ = .ok w' ρ2 ∧ w'.data = w.data) → Rel X.K X.mg Wx.fl σ ρ2 H1 G1 → Fr [] σ ρ H G σ ρ2 H1 G1 → WalkD X.K X.mg J items G1 → Rk J H1 := fun J ρ2 H1 G1 ⟨w', e', _⟩ R1 F1 Wd => by
        rw [em] at e'
        cases e'
        exact h1 J H1 G1 R1 F1 Wd
      unfold itemsD at ei
      split at ei
      · rename_i ds ed
        have e' := Option.some.inj ei
        subst e'
        refine .inr (.inl (tM_known (P := fun x => x = .tup ds) R ⟨w, ρ1, em, ed⟩ fun x v ρ2 H1 G1 px R1 F1 rv k => ?_))
        subst px
        obtain ⟨p, xs, ev, hq, rs⟩ := rv
        rw [← ed] at k
        exact ⟨p, ev, ⟨xs, sqT_mono R1.sub hq⟩, fin _ ρ2 H1 G1 k R1 F1 (WalkD.tup hq rs)⟩
      · rename_i ds ed
        have e' := Option.some.inj ei
        subst e'
        refine .inl (tM_known (P := fun x => x = .lst ds) R ⟨w, ρ1, em, ed⟩ fun x v ρ2 H1 G1 px R1 F1 rv k => ?_)
        subst px
        obtain ⟨p, xs, ev, hq, rs⟩ := rv
        rw [← ed] at k
        exact ⟨p, ev, ⟨xs, SqL.of (R1.sub _ _ hq)⟩, fin _ ρ2 H1 G1 k R1 F1 (WalkD.lst (SqL.of hq) rs)⟩
      · rename_i ns ed
        have e' := Option.some.inj ei
        subst e'
        refine .inl (tM_known (P := fun x => x = .scr ns) R ⟨w, ρ1, em, ed⟩ fun x v ρ2 H1 G1 px R1 F1 rv k => ?_)
        subst px
        obtain ⟨p, ev, hq⟩ := rv
        rw [← ed] at k
        exact ⟨p, ev, ⟨_, sqL_mono R1.sub hq⟩, fin _ ρ2 H1 G1 k R1 F1 (WalkD.lst hq (RVs.of_ints ns))⟩
      · rename_i z ed
        have e' := Option.some.inj ei
        subst e'
        refine .inr (.inr (.inl (tM_known (P := fun x => x = .str z) R ⟨w, ρ1, em, ed⟩ fun x v ρ2 H1 G1 px R1 F1 rv k => ?_)))
        subst px
        rw [← ed] at k
        exact ⟨z, rv, fin _ ρ2 H1 G1 k R1 F1 WalkD.str⟩
      · rename_i kvs ed
        have e' := Option.some.inj ei
        subst e'
        refine .inr (.inr (.inr (tM_known (P := fun x => x = .ldc kvs) R ⟨w, ρ1, em, ed⟩ fun x v ρ2 H1 G1 px R1 F1 rv k => ?_)))
        subst px
        obtain ⟨p, o, ks, ev, hq, rs⟩ := rv
        rw [← ed] at k
        exact ⟨p, o, ev, .inl ⟨ks, R1.sub _ _ hq, fin _ ρ2 H1 G1 k R1 F1 (WalkD.keys hq rs)⟩⟩
      · cases ei
    · exact h1.elim
def rgOk (i : Int) : Bool := decide (-(2 ^ 62) ≤ i ∧ i < 2 ^ 62)
def range1D : List D → Option (List D)
  | [.int j] => if rgOk j = true then some ((List.range j.toNat).map fun i => .int (0 + ((i : Nat) : Int))) else none
  | _ => none
def range2D : List D → Option (List D)
  | [.int i, .int j] => if (rgOk i && rgOk j) = true then some ((List.range (j - i).toNat).map fun k => .int (i + ((k : Nat) : Int))) else none
  | _ => none
def iterL (φ : List D → Option (List D)) (ms : M (List D)) : M (List D) := fun ρ => (ms ρ).bind fun ds ρ => liftM (φ ds) ρ
theorem tL_bindI {K : PySem.W.Frag} {mg : Str → Option Value} {σ : St} {ρ : Rho} {H G : Hp} {m : M (List D)} {f : List D → M (List D)} {Rk : It → Hp → Prop} (R : Rel K mg Wx.fl σ ρ H G) (h : GoI K mg Wx σ ρ H G ((m ρ).bind f) Rk) :
    tL K mg Wx m σ H fun v H1 => ∃ a ρ1 G1, Rel K mg Wx.fl σ ρ1 H1 G1 ∧ RVs K mg G1 a v ∧ Fr [] σ ρ H G σ ρ1 H1 G1 ∧ GoI K mg Wx σ ρ1 H1 G1 (f a ρ1) Rk := by
  refine ⟨ρ, G, R, ?_⟩
  cases e : m ρ with
  | ok w ρ1 => rw [e] at h; exact fun v H' G' R' F' r => ⟨w, ρ1, G', R', r, F', GoI.shift F' h⟩
  | exc c fs ρ1 => rw [e] at h; exact h
  | bad => rw [e] at h; exact h.elim
theorem rgOk_le {i : Int} (h : rgOk i = true) : -(2 ^ 62) ≤ i ∧ i < 2 ^ 62 := of_decide_eq_true h
theorem pmi_range1 {p : Pos} {ms : M (List D)} (hg : Gl X "range") (hm : X.mg "range" = none) (ha : PML X Wx [a] ms) (hs : starEach [a] X.env = [(false, eval a X.env)]) : PMI X Wx tg (.Call (.Name "range" p) [a] [] pos) (iterL range1D ms) := by
  refine piImp (pi_range1 hg hm ha hs) fun σ H Rk h => ?_
  obtain ⟨ρ, G, R, h⟩ := h
  refine tL_mono (tL_bindI R h) fun vs H1 ⟨ds, ρ1, G1, R1, rv, F1, k⟩ => ?_
  unfold liftM at k
  split at k
  · rename_i items ei
    unfold range1D at ei
    split at ei
    · split at ei
      · rename_i j hj
        have e' := Option.some.inj ei
        subst e'
        obtain ⟨y, ys, ev, ry, rys⟩ := rv
        cases (show y = .int j from ry)
        cases (show ys = [] from rys)
        obtain ⟨h1, h2⟩ := rgOk_le hj
        exact ⟨j, ev, h1, h2, k _ H1 G1 R1 Fr.refl WalkD.rng⟩
      · cases ei
    · cases ei
  · exact k.elim
theorem pmi_range2 {p : Pos} {ms : M (List D)} (hg : Gl X "range") (hm : X.mg "range" = none) (ha : PML X Wx [a, b] ms) (hs : starEach [a, b] X.env = [(false, eval a X.env), (false, eval b X.env)]) (hs2 : starEach [b] X.env = [(false, eval b X.env)]) :
    PMI X Wx tg (.Call (.Name "range" p) [a, b] [] pos) (iterL range2D ms) := by
  refine piImp (pi_range2 hg hm ha hs hs2) fun σ H Rk h => ?_
  obtain ⟨ρ, G, R, h⟩ := h
  refine tL_mono (tL_bindI R h) fun vs H1 ⟨ds, ρ1, G1, R1, rv, F1, k⟩ => ?_
  unfold liftM at k
  split at k
  · rename_i items ei
    unfold range2D at ei
    split at ei
    · split at ei
      · rename_i i j hj
        rw [Bool.and_eq_true] at hj
        have e' := Option.some.inj ei
        subst e'
        obtain ⟨y, ys, ev, ry, z, zs, ev2, rz, rzs⟩ := rv
        cases (show y = .int i from ry)
        cases (show z = .int j from rz)
        cases (show zs = [] from rzs)
        subst ev2
        obtain ⟨h1, h2⟩ := rgOk_le hj.1
        obtain ⟨h3, h4⟩ := rgOk_le hj.2
        exact ⟨i, j, ev, ⟨h1, h2, h3, h4⟩, k _ H1 G1 R1 Fr.refl WalkD.rng⟩
      · cases ei
    · cases ei
  · exact k.elim
def wipeR (ρ : Rho) : List Nat → Rho
  | [] => ρ
  | i :: vs => (wipeR ρ vs).set i none
/-- the slots of vs as in ρ, all others as in ρ' -/
def mergeR (ρ ρ' : Rho) : List Nat → Rho
  | [] => ρ'
  | i :: vs => (mergeR ρ ρ' vs).set i (ρ.getD i none)
def lcLoop (g : D → M Unit) (t : M Bool) (el : M W) (vs : List Nat) : List D → List D → M W
  | [], acc => fun ρ => .ok (.own (.lst acc)) ρ
  | x :: xs, acc => fun ρ => match g x (wipeR ρ vs) with
    | .ok _ ρ1 => match t ρ1 with
      | .ok true ρ2 => match el ρ2 with
        | .ok w ρ3 => if sizeOk (acc.length + 1) = true then lcLoop g t el vs xs (acc ++ [w.data]) (mergeR ρ ρ3 vs) else .bad
        | _ => .bad
      | .ok false ρ2 => lcLoop g t el vs xs acc (mergeR ρ ρ2 vs)
      | _ => .bad
    | _ => .bad
def lcM (mi : M (List D)) (g : D → M Unit) (t : M Bool) (el : M W) (vs : List Nat) : M W := fun ρ => (mi ρ).bind fun ds ρ => lcLoop g t el vs ds [] ρ
def yesM : M Bool := fun ρ => .ok true ρ
section
variable {σ : St} {ρ ρ' : Rho}
theorem wipeR_len : ∀ vs : List Nat, (wipeR ρ vs).length = ρ.length
  | [] => rfl
  | i :: vs => by unfold wipeR; rw [List.length_set]; exact wipeR_len vs
theorem mergeR_len (h : ρ'.length = ρ.length) : ∀ vs : List Nat, (mergeR ρ ρ' vs).length = ρ.length
  | [] => h
  | i :: vs => by unfold mergeR; rw [List.length_set]; exact mergeR_len h vs
theorem wipeR_some {j : Nat} {w : W} : ∀ {vs : List Nat}, (wipeR ρ vs)[j]? = some (some w) → j ∉ vs ∧ ρ[j]? = some (some w)
  | [], h => ⟨by simp, h⟩
  | i :: vs, h => by
    unfold wipeR at h
    by_cases hj : j = i
    · subst hj
      exfalso
      by_cases hl : j < (wipeR ρ vs).length
      · rw [List.getElem?_set_self hl] at h
        cases h
      · rw [List.getElem?_eq_none (by rw [List.length_set]; omega)] at h
        cases h
    · rw [List.getElem?_set_ne (Ne.symm hj)] at h
      obtain ⟨h1, h2⟩ := wipeR_some h
      exact ⟨by simp [hj, h1], h2⟩
theorem wipe_out2 {j : Nat} : ∀ {vs : List Nat}, j ∉ vs → (wipe σ vs)[j]? = σ[j]?
  | [], _ => rfl
  | i :: vs, h => by
    have h' : j ≠ i ∧ j ∉ vs := by simpa using h
    show ((wipe σ vs).set i none)[j]? = σ[j]?
    rw [List.getElem?_set_ne (Ne.symm h'.1)]
    exact wipe_out2 h'.2
theorem mergeR_in {j : Nat} (hl : ρ'.length = ρ.length) : ∀ {vs : List Nat}, j ∈ vs → (mergeR ρ ρ' vs)[j]? = ρ[j]?
  | [], h => by simp at h
  | i :: vs, h => by
    unfold mergeR
    by_cases hj : j = i
    · subst hj
      by_cases hb : j < ρ.length
      · rw [List.getElem?_set_self (by rw [mergeR_len hl]; exact hb), List.getD_eq_getElem?_getD, List.getElem?_eq_getElem hb]
        rfl
      · rw [List.getElem?_eq_none (by rw [List.length_set, mergeR_len hl]; omega), List.getElem?_eq_none (by omega)]
    · rw [List.getElem?_set_ne (Ne.symm hj)]
      exact mergeR_in hl (by simpa [hj] using h)
theorem mergeR_out {j : Nat} : ∀ {vs : List Nat}, j ∉ vs → (mergeR ρ ρ' vs)[j]? = ρ'[j]?
  | [], _ => rfl
  | i :: vs, h => by
    have h' : j ≠ i ∧ j ∉ vs := by simpa using h
    unfold mergeR
    rw [List.getElem?_set_ne (Ne.symm h'.1)]
    exact mergeR_out h'.2
theorem wipe_len2 : ∀ vs : List Nat, (wipe σ vs).length = σ.length
  | [] => rfl
  | i :: vs => by
    show ((wipe σ vs).set i none).length = σ.length
    rw [List.length_set]
    exact wipe_len2 vs
theorem wipe_in {j : Nat} : ∀ {vs : List Nat}, j ∈ vs → j < σ.length → (wipe σ vs)[j]? = some none
  | [], h, _ => by simp at h
  | i :: vs, h, hb => by
    show ((wipe σ vs).set i none)[j]? = some none
    by_cases hj : j = i
    · subst hj
      exact List.getElem?_set_self (by rw [wipe_len2]; exact hb)
    · rw [List.getElem?_set_ne (Ne.symm hj)]
      exact wipe_in (by simpa [hj] using h) hb
/-- the slots outside vs are the same -/
theorem wipe_same {σ2 : St} {vs : List Nat} (hl : σ2.length = σ.length) (h : ∀ j, j ∉ vs → σ2[j]? = σ[j]?) : wipe σ2 vs = wipe σ vs := by
  apply List.ext_getElem?
  intro j
  by_cases hj : j ∈ vs
  · by_cases hb : j < σ.length
    · rw [wipe_in hj (by omega), wipe_in hj hb]
    · rw [List.getElem?_eq_none (by rw [wipe_len2]; omega), List.getElem?_eq_none (by rw [wipe_len2]; omega)]
  · rw [wipe_out2 hj, wipe_out2 hj]
    exact h j hj
end
/-- the slots of the frame but those of vs -/
def outs (n : Nat) (vs : List Nat) : List Nat := (List.range n).filter fun j => !vs.contains j
theorem mem_outs {n : Nat} {vs : List Nat} {j : Nat} (h1 : j < n) (h2 : j ∉ vs) : j ∈ outs n vs := by
  unfold outs
  simp [h1, h2]
section
variable {K : PySem.W.Frag} {mg : Str → Option Value} {σ σ2 : St} {ρ ρ1 ρ2 : Rho} {H H2 G G2 : Hp} {vs : List Nat}
theorem Rel.wiped (R : Rel K mg fl σ ρ H G) (vs : List Nat) : Rel K mg fl (wipe σ vs) (wipeR ρ vs) H G :=
  ⟨by rw [wipeR_len, wipe_len2]; exact R.len, R.sub, fun i w hw => by
    obtain ⟨h1, h2⟩ := wipeR_some hw
    obtain ⟨v, s, q⟩ := R.slot i w h2
    exact ⟨v, by rw [wipe_out2 h1]; exact s, q⟩, fun i j x y v h1 h2 h3 h4 => by
    obtain ⟨a1, a2⟩ := wipeR_some h1
    obtain ⟨b1, b2⟩ := wipeR_some h2
    rw [wipe_out2 a1] at h3
    rw [wipe_out2 b1] at h4
    exact R.dis i j x y v a2 b2 h3 h4, R.floor, R.tabs, R.ntb⟩
theorem OwnS.of_wiped {b : Addr} (h : OwnS (wipe σ vs) (wipeR ρ vs) b) : OwnS σ ρ b := by
  obtain ⟨i, x, h1, h2⟩ := h
  obtain ⟨a1, a2⟩ := wipeR_some h1
  rw [wipe_out2 a1] at h2
  exact ⟨i, x, a2, h2⟩
/-- behind a turn of the block -/
theorem Rel.merged (R : Rel K mg fl σ ρ H G) (R2 : Rel K mg fl σ2 ρ2 H2 G2) (F : Fr (outs σ.length vs) (wipe σ vs) (wipeR ρ vs) H G σ2 ρ2 H2 G2) :
    Rel K mg fl σ (mergeR ρ ρ2 vs) H2 G2 ∧ Fr [] σ ρ H G σ (mergeR ρ ρ2 vs) H2 G2 ∧ wipe σ2 vs = wipe σ vs := by
  have hlen : σ2.length = σ.length := by rw [F.len, wipe_len2]
  have hl2 : ρ2.length = ρ.length := by rw [R2.len, R.len, hlen]
  have same : ∀ j, j ∉ vs → σ2[j]? = σ[j]? := fun j hj => by
    by_cases hb : j < σ.length
    · rw [F.fix j (mem_outs hb hj), wipe_out2 hj]
    · rw [List.getElem?_eq_none (by omega), List.getElem?_eq_none (by omega)]
  have inn : ∀ (j : Nat) (w : W), (mergeR ρ ρ2 vs)[j]? = some (some w) → (j ∈ vs ∧ ρ[j]? = some (some w)) ∨ (j ∉ vs ∧ ρ2[j]? = some (some w)) := fun j w h => by
    by_cases hj : j ∈ vs
    · rw [mergeR_in hl2 hj] at h
      exact .inl ⟨hj, h⟩
    · rw [mergeR_out hj] at h
      exact .inr ⟨hj, h⟩
  -- an own object of a wiped slot stays
  have stay : ∀ (j : Nat) (x : D) (a : Addr), j ∈ vs → ρ[j]? = some (some (.own x)) → σ[j]? = some (some (.ref a)) → H2 a = H a ∧ G2 a = none ∧ ¬ OwnS σ2 ρ2 a := fun j x a hj h1 h2 => by
    obtain ⟨v, s, q⟩ := R.slot j _ h1
    rw [h2] at s
    cases s
    obtain ⟨a', ea, ga, ro⟩ := q
    cases ea
    obtain ⟨o, ho, _, hld⟩ := ro.there
    have nw : ¬ OwnS (wipe σ vs) (wipeR ρ vs) a := fun ⟨i, y, k1, k2⟩ => by
      obtain ⟨a1, a2⟩ := wipeR_some k1
      rw [wipe_out2 a1] at k2
      have := R.dis i j y x (.ref a) a2 h1 k2 h2
      rw [this] at a1
      exact a1 hj
    obtain ⟨k1, k2, k3⟩ := F.keep a o ho hld.kp ga nw
    exact ⟨k1.trans ho.symm, k2, k3⟩
  refine ⟨⟨by rw [mergeR_len hl2]; exact R.len, R2.sub, fun j w hw => ?_, fun i j x y v h1 h2 h3 h4 => ?_, R2.floor, R2.tabs, R2.ntb⟩, ⟨F.grow, fun b o hb nt hg hn => ?_, fun _ h => absurd h (by simp), rfl⟩, wipe_same hlen same⟩
  · rcases inn j w hw with ⟨hj, h1⟩ | ⟨hj, h1⟩
    · obtain ⟨v, s, q⟩ := R.slot j w h1
      refine ⟨v, s, q.mono F.grow fun x a e1 e2 => ?_⟩
      subst e1 e2
      obtain ⟨k1, k2, _⟩ := stay j x a hj h1 s
      exact ⟨k1, k2⟩
    · obtain ⟨v, s, q⟩ := R2.slot j w h1
      rw [same j hj] at s
      exact ⟨v, s, q⟩
  · rcases inn i _ h1 with ⟨hi, a1⟩ | ⟨hi, a1⟩
    · rcases inn j _ h2 with ⟨hj, b1⟩ | ⟨hj, b1⟩
      · exact R.dis i j x y v a1 b1 h3 h4
      · exfalso
        obtain ⟨v', s, a, ea, _⟩ := R.slot i _ a1
        rw [h3] at s
        cases s
        subst ea
        exact (stay i x a hi a1 h3).2.2 ⟨j, y, b1, by rw [same j hj]; exact h4⟩
    · rcases inn j _ h2 with ⟨hj, b1⟩ | ⟨hj, b1⟩
      · exfalso
        obtain ⟨v', s, a, ea, _⟩ := R.slot j _ b1
        rw [h4] at s
        cases s
        subst ea
        exact (stay j y a hj b1 h4).2.2 ⟨i, x, a1, by rw [same i hi]; exact h3⟩
      · exact R2.dis i j x y v a1 b1 (by rw [same i hi]; exact h3) (by rw [same j hj]; exact h4)
  · obtain ⟨k1, k2, k3⟩ := F.keep b o hb nt hg fun z => hn z.of_wiped
    refine ⟨k1, k2, fun ⟨j, x, h1, h2⟩ => ?_⟩
    rcases inn j _ h1 with ⟨hj, a1⟩ | ⟨hj, a1⟩
    · exact hn ⟨j, x, a1, h2⟩
    · exact k3 ⟨j, x, a1, by rw [same j hj]; exact h2⟩
end
/-- one clause: [el for tg in it if t] -/
theorem lc_go {mi : M (List D)} {g : D → M Unit} {t : M Bool} {el : M W} {vs : List Nat} {K : PySem.W.Frag} {mg : Str → Option Value} {σ : St} {H : Hp} {Q : VK} (h : tM K mg Wx (lcM mi g t el vs) σ H Q) :
    tLc (tI K mg Wx mi) (tG K mg Wx.fl (outs σ.length vs) g) (tB2 K mg ⟨fun _ _ _ _ => False, Wx.fl⟩ t) (tM K mg ⟨fun _ _ _ _ => False, Wx.fl⟩ el) vs σ H Q := by
  obtain ⟨ρ, G, R, h⟩ := h
  refine ⟨ρ, G, R, ?_⟩
  unfold lcM at h
  cases e : mi ρ with
  | exc c fs ρ1 => rw [e] at h; exact h
  | bad => rw [e] at h; exact h.elim
  | ok ds ρ1 =>
    rw [e] at h
    intro J H1 G1 R1 F1 Wd L hL
    have h1 : GoE K mg Wx σ ρ1 H1 G1 (lcLoop g t el vs ds [] ρ1) Q := GoE.shift F1 h
    obtain ⟨n, Gp, Y, wk, en, hG, hY⟩ := Wd.ex
    have gL : G1 L = none := by
      cases eg : G1 L with
      | none => rfl
      | some o => have := R1.sub _ _ eg; rw [hL] at this; cases this
    -- a state in which the new list at L holds acc
    let At : List D → Rho → Hp → Hp → Prop := fun acc ρ' H' G' => Rel K mg Wx.fl σ ρ' H' G' ∧ Fr [] σ ρ1 H1 G1 σ ρ' H' G' ∧ G' L = none ∧ ¬ OwnS σ ρ' L ∧ ∃ xs, H' L = some (.lst xs) ∧ RVs K mg G' acc xs
    refine lc_it wk (fun i H' => ∃ acc ρ' G', At acc ρ' H' G' ∧ GoE K mg Wx σ ρ1 H1 G1 (lcLoop g t el vs (ds.drop i) acc ρ') Q) ⟨[], ρ1, G1, ⟨?_, ?_, gL, ?_, [], upd_same, rfl⟩, by rw [List.drop_zero]; exact h1⟩
      (fun i H' _ ⟨acc, ρ', G', A', _⟩ => hG H' (A'.2.1.grow.trans A'.1.sub)) ?_ ?_
    · refine ⟨R1.len, fun b o hb => ?_, fun i w hw => ?_, R1.dis, R1.floor, tabs_upd (fun u e => by rw [hL] at e; cases e) R1.tabs, R1.ntb⟩
      · rw [upd_ne (fun z => by rw [z, gL] at hb; cases hb)]
        exact R1.sub b o hb
      · obtain ⟨v, s, q⟩ := R1.slot i w hw
        refine ⟨v, s, q.mono SubH.refl fun x a e1 e2 => ?_⟩
        subst e1 e2
        obtain ⟨a', ea, ga, ro⟩ := q
        cases ea
        obtain ⟨o, ho, _⟩ := ro.there
        exact ⟨upd_ne (ne_of_none ho hL), ga⟩
    · exact ⟨SubH.refl, fun b o hb _ hg hn => ⟨by rw [upd_ne (ne_of_none hb hL)]; exact hb, hg, hn⟩, fun _ h => absurd h (by simp), rfl⟩
    · intro ⟨i, x, k1, k2⟩
      obtain ⟨v, s, a', ea, ga, ro⟩ := R1.slot i _ k1
      rw [k2] at s
      cases s
      cases ea
      obtain ⟨o, ho, _⟩ := ro.there
      rw [hL] at ho
      cases ho
    · intro i x H' H2 hin ⟨acc, ρ', G', ⟨R', F', g', n', xs, hx, rx⟩, k⟩ y
      obtain ⟨d, G2, hd, al⟩ := hY i H' x H2 G' F'.grow R'.sub hin y
      have hlt : i < ds.length := by omega
      have ed : ds.drop i = d :: ds.drop (i + 1) := by
        rw [List.drop_eq_getElem_cons hlt]
        congr 1
        rw [List.getElem?_eq_getElem hlt] at hd
        exact Option.some.inj hd
      rw [ed] at k
      obtain ⟨R2, F2, rv⟩ := R'.al al
      have F12 := F'.trans F2
      obtain ⟨hx2, g2, n2⟩ := F2.keep L _ hx True.intro g' n'
      have rx2 := RVs.mono F2.grow acc xs rx
      have Rw := R2.wiped vs
      -- the turn, told from the wiped slots
      have k1 : GoE K mg Wx σ ρ1 H1 G1 (match g d (wipeR ρ' vs) with
        | .ok _ ρ1 => match t ρ1 with
          | .ok true ρ2 => match el ρ2 with
            | .ok w ρ3 => if sizeOk (acc.length + 1) = true then lcLoop g t el vs (ds.drop (i + 1)) (acc ++ [w.data]) (mergeR ρ' ρ3 vs) else .bad
            | _ => .bad
          | .ok false ρ2 => lcLoop g t el vs (ds.drop (i + 1)) acc (mergeR ρ' ρ2 vs)
          | _ => .bad
        | _ => .bad) Q := k
      refine ⟨wipeR ρ' vs, G2, d, Rw, rv.1, ?_⟩
      have fin : ∀ {σ3 : St} {ρ3 : Rho} {H3 G3 : Hp}, Rel K mg Wx.fl σ3 ρ3 H3 G3 → Fr (outs σ.length vs) (wipe σ vs) (wipeR ρ' vs) H2 G2 σ3 ρ3 H3 G3 →
          Rel K mg Wx.fl σ (mergeR ρ' ρ3 vs) H3 G3 ∧ Fr [] σ ρ1 H1 G1 σ (mergeR ρ' ρ3 vs) H3 G3 ∧ wipe σ3 vs = wipe σ vs ∧ H3 L = some (.lst xs) ∧ G3 L = none ∧ ¬ OwnS σ (mergeR ρ' ρ3 vs) L := fun R3 F3 => by
        obtain ⟨Rm, Fm, es⟩ := R2.merged R3 F3
        obtain ⟨k1, k2, k3⟩ := Fm.keep L _ hx2 True.intro g2 n2
        exact ⟨Rm, F12.trans Fm, es, k1, k2, k3⟩
      cases eg : g d (wipeR ρ' vs) with
      | exc c fs ρ2 => rw [eg] at k1; exact k1
      | bad => rw [eg] at k1; exact k1
      | ok u ρ2 =>
        rw [eg] at k1
        have k2 : GoE K mg Wx σ ρ1 H1 G1 (match t ρ2 with
          | .ok true ρ2 => match el ρ2 with
            | .ok w ρ3 => if sizeOk (acc.length + 1) = true then lcLoop g t el vs (ds.drop (i + 1)) (acc ++ [w.data]) (mergeR ρ' ρ3 vs) else .bad
            | _ => .bad
          | .ok false ρ2 => lcLoop g t el vs (ds.drop (i + 1)) acc (mergeR ρ' ρ2 vs)
          | _ => .bad) Q := k1
        clear k1
        intro σ3 H3 G3 R3 F3
        obtain ⟨_, _, es, _⟩ := fin R3 F3
        refine ⟨es, ρ2, G3, R3, ?_⟩
        cases et : t ρ2 with
        | exc c fs ρ4 => rw [et] at k2; exact k2.elim
        | bad => rw [et] at k2; exact k2.elim
        | ok b ρ4 =>
          rw [et] at k2
          intro H4 G4 R4 F4
          have F34 := F3.trans F4.io_nil
          cases b with
          | false =>
            obtain ⟨Rm, Fm, _, hx4, g4, n4⟩ := fin R4 F34
            exact iteF ⟨acc, _, G4, ⟨Rm, Fm, g4, n4, xs, hx4, RVs.mono (F3.grow.trans F4.grow) acc xs rx2⟩, k2⟩
          | true =>
            refine iteT ⟨ρ4, G4, R4, ?_⟩
            have k3 : GoE K mg Wx σ ρ1 H1 G1 (match el ρ4 with
              | .ok w ρ3 => if sizeOk (acc.length + 1) = true then lcLoop g t el vs (ds.drop (i + 1)) (acc ++ [w.data]) (mergeR ρ' ρ3 vs) else .bad
              | _ => .bad) Q := k2
            clear k2
            cases ee : el ρ4 with
            | exc c fs ρ5 => rw [ee] at k3; exact k3.elim
            | bad => rw [ee] at k3; exact k3.elim
            | ok w ρ5 =>
              rw [ee] at k3
              intro v H5 G5 R5 F5 r5
              have k2 : GoE K mg Wx σ ρ1 H1 G1 (if sizeOk (acc.length + 1) = true then lcLoop g t el vs (ds.drop (i + 1)) (acc ++ [w.data]) (mergeR ρ' ρ5 vs) else .bad) Q := k3
              split at k2
              · rename_i hs
                obtain ⟨G6, R6, F6, rv6⟩ := keep_res R5 F5 r5
                have F36 := F34.trans F6.io_nil
                obtain ⟨Rm, Fm, _, hx6, g6, n6⟩ := fin R6 F36
                have rx6 := RVs.mono ((F3.grow.trans F4.grow).trans F6.grow) acc xs rx2
                refine ⟨xs, hx6, by rw [← rx6.length]; exact Nat.lt_of_succ_le (sizeOk_le hs), acc ++ [w.data], _, G6, ⟨⟨Rm.len, fun b o hb => ?_, fun j u hu => ?_, Rm.dis, Rm.floor, tabs_upd (fun u e => by rw [hx6] at e; cases e; exact True.intro) Rm.tabs, Rm.ntb⟩, ⟨Fm.grow, fun b o hb nt hg hn => ?_, Fm.fix, Fm.len⟩, g6, n6, _, upd_same, rx6.append (RVs.one rv6)⟩, k2⟩
                · rw [upd_ne (fun z => by rw [z, g6] at hb; cases hb)]
                  exact Rm.sub b o hb
                · obtain ⟨z, s, q⟩ := Rm.slot j u hu
                  refine ⟨z, s, q.mono SubH.refl fun y a e1 e2 => ?_⟩
                  subst e1 e2
                  obtain ⟨a', ea, ga, ro⟩ := q
                  cases ea
                  exact ⟨upd_ne fun z => n6 ⟨j, y, hu, by rw [s, z]⟩, ga⟩
                · obtain ⟨a1, a2, a3⟩ := Fm.keep b o hb nt hg hn
                  exact ⟨by rw [upd_ne (ne_of_none hb hL)]; exact a1, a2, a3⟩
              · exact k2.elim
    · intro H' ⟨acc, ρ', G', ⟨R', F', g', n', xs, hx, rx⟩, k⟩
      rw [List.drop_eq_nil_of_le (by omega)] at k
      exact k (.ref L) H' G' R' F' ⟨⟨L, rfl, g', xs, hx, rx⟩, fun y a e1 e2 => by
        cases e2
        exact ⟨n', fun o ho _ => by rw [hL] at ho; cases ho⟩⟩
end
end FL
set_option Elab.async false
set_option linter.all false
set_option maxRecDepth 100000
set_option maxHeartbeats 2000000
namespace FL
open PySem PySem.Spec L2
open PyProof.Rows hiding St
/-- a call's answer; outs: what the arguments handed in by reference hold behind it -/
inductive FR where
  | ok (w : W) (outs : List W)
  | exc (c : Str) (fs : List (Str × D)) (outs : List W)
  | bad
abbrev FnSem := List W → FR
/-- the arguments' own objects -/
def OwnA (vs : List V) (ws : List W) (b : Addr) : Prop := ∃ (i : Nat) (x : D), ws[i]? = some (.own x) ∧ vs[i]? = some (.ref b)
structure EntA (K : PySem.W.Frag) (mg : Str → Option Value) (fl : Flr) (vs : List V) (ws : List W) (H G : Hp) : Prop where
  len : vs.length = ws.length
  sub : SubH G H
  val : ∀ (i : Nat) (w : W), ws[i]? = some w → ∃ v, vs[i]? = some v ∧ RW K mg H G v w
  dis : ∀ (i j : Nat) (x y : D) (v : V), ws[i]? = some (.own x) → ws[j]? = some (.own y) → vs[i]? = some v → vs[j]? = some v → i = j
  floor : SubH fl.fl G
  tabs : LamX.Tabs fl.T H
  ntb : ∀ b o, G b = some o → NT o
structure ExA (K : PySem.W.Frag) (mg : Str → Option Value) (fl : Flr) (vs : List V) (ws outs : List W) (H G H' G' : Hp) : Prop where
  grow : SubH G G'
  sub : SubH G' H'
  keep : ∀ b o, H b = some o → KP o → G b = none → ¬ OwnA vs ws b → H' b = some o ∧ G' b = none
  out : ∀ (i : Nat) (x : D), ws[i]? = some (.own x) → ∃ (y : D) (a : Addr), outs[i]? = some (.own y) ∧ vs[i]? = some (.ref a) ∧ G' a = none ∧ RO K mg H' G' a y
  shape : ∀ (i : Nat) (y : D), outs[i]? = some (.own y) → ∃ x, ws[i]? = some (.own x)
  tabs : LamX.Tabs fl.T H'
  ntb : ∀ b o, G' b = some o → NT o
def spF (K : PySem.W.Frag) (mg : Str → Option Value) (fl : Flr) (F : FnSem) : Sp := fun vs H Q E => ∃ ws G, EntA K mg fl vs ws H G ∧
  match F ws with
  | .ok w outs => ∀ v H' G', ExA K mg fl vs ws outs H G H' G' → RW K mg H' G' v w → (∀ x a, w = .own x → v = .ref a → ∀ o, H a = some o → ¬ KP o) → Q v H'
  | .exc c fs outs => ∀ cls od H' G', ExA K mg fl vs ws outs H G H' G' → RX K mg H' G' cls od c fs → E cls od H'
  | .bad => False
/-- the room that a lambda is called in -/
abbrev KL : Nat := 40
/-- wherever the floor stands, a known lambda's call answers as Λ tells -/
def LamVs (P : Program) (w : World) (K : PySem.W.Frag) (mg : Str → Option Value) (base : Heap) (fl : Flr) (Λ : D → FR) : Prop :=
  ∀ (d : D) (f : Addr) (G1 : Hp) (A : Around) (outer : List Env) (s1 : Shared) (H1 : Hp) (Q : VK) (E : XK), RV K mg G1 d (.ref f) → SubH G1 H1 → Room KL A → A.guards = some [] → Env0 P w K mg base A outer s1 H1 →
    spF K mg fl (fun _ => Λ d) [] H1 Q E → codeAny (model P w) A (.call (.ref f) ⟨[], []⟩) (CR (L2.CX P w) outer P w H1 s1 Q E) s1
theorem lamVs_bad {P : Program} {w : World} {K : PySem.W.Frag} {mg : Str → Option Value} {base : Heap} {fl : Flr} : LamVs P w K mg base fl fun _ => .bad := fun _ _ _ _ _ _ _ _ _ _ _ _ _ _ h => let ⟨_, _, _, z⟩ := h; False.elim z
/-- what a def promises: where no repr runs; F may lean on the address of its frame, and on what the lambdas answer -/
structure FnX (P : Program) (w : World) (K : PySem.W.Frag) (mg : Str → Option Value) (base : Heap) (T : List (Addr × Str) → Prop) (k : Nat) (f : Addr) (fd : FuncData) (ps : List Str) (F : Addr → (D → FR) → FnSem) : Prop where
  arity : ∀ a Λ ws, F a Λ ws ≠ .bad → ws.length = ps.length
  run : ∀ (A : Around) (outer : List Env) (s : Shared) (H : Hp) (args : Args) (us : List Value) (vs : List V) (Q : VK) (E : XK) (fl : Flr) (Λ : D → FR), T fl.T →
    Room k A → A.guards = some [] → LamVs P w K mg base fl Λ → Env0 P w K mg base A outer s H → BindsTo s fd args (ps.zip us) → Vals vs us → spF K mg fl (F s.heap.objs.size Λ) vs H Q E →
    codeAny (model P w) A (.call (.ref f) args) (CR (L2.CX P w) outer P w H s Q E) s
abbrev AnyT : List (Addr × Str) → Prop := fun _ => True
abbrev FnL (P : Program) (w : World) (K : PySem.W.Frag) (mg : Str → Option Value) (base : Heap) (k : Nat) (f : Addr) (fd : FuncData) (ps : List Str) (F : (D → FR) → FnSem) : Prop := FnX P w K mg base AnyT k f fd ps fun _ Λ => F Λ
abbrev FnG (P : Program) (w : World) (K : PySem.W.Frag) (mg : Str → Option Value) (base : Heap) (k : Nat) (f : Addr) (fd : FuncData) (ps : List Str) (F : FnSem) : Prop := FnX P w K mg base AnyT k f fd ps fun _ _ => F
theorem FnX.mono {P : Program} {w : World} {K : PySem.W.Frag} {mg : Str → Option Value} {base : Heap} {T : List (Addr × Str) → Prop} {j k : Nat} {f : Addr} {fd : FuncData} {ps : List Str} {F : Addr → (D → FR) → FnSem} (h : FnX P w K mg base T j f fd ps F) (hj : j ≤ k) : FnX P w K mg base T k f fd ps F :=
  ⟨h.arity, fun A outer s H args us vs Q E fl Λ t r => h.run A outer s H args us vs Q E fl Λ t (r.mono hj)⟩
def outsOf (ρ : Rho) : Nat → List W → Option (List W)
  | _, [] => some []
  | i, .d _ :: ws => match outsOf ρ (i + 1) ws with
    | some os => some (.d .non :: os)
    | none => none
  | i, .own _ :: ws => match ρ[i]?, outsOf ρ (i + 1) ws with
    | some (some (.own y)), some os => some (.own y :: os)
    | _, _ => none
def startR (n : Nat) (ws : List W) : Rho := ws.map some ++ List.replicate (n - ws.length) none
def sigOk : List Bool → List W → Bool
  | [], [] => true
  | _ :: bs, .d _ :: ws => sigOk bs ws
  | b :: bs, .own _ :: ws => b && sigOk bs ws
  | _, _ => false
def ioOf : Nat → List Bool → List Nat
  | _, [] => []
  | i, true :: bs => i :: ioOf (i + 1) bs
  | i, false :: bs => ioOf (i + 1) bs
def finF (ws : List W) (w : W) (ρ : Rho) : FR := match outsOf ρ 0 ws with
  | some os => .ok w os
  | none => .bad
def fnM (n : Nat) (sig : List Bool) (body : M Fl) : FnSem := fun ws => if sigOk sig ws = true then
    match body (startR n ws) with
    | .ok .nx ρ => finF ws (.d .non) ρ
    | .ok (.ret w) ρ => finF ws w ρ
    | .exc c fs ρ => match outsOf ρ 0 ws with
      | some os => .exc c fs os
      | none => .bad
    | _ => .bad
  else .bad
theorem sigOk_len : ∀ {bs : List Bool} {ws : List W}, sigOk bs ws = true → ws.length = bs.length
  | [], [], _ => rfl
  | _ :: bs, .d _ :: ws, h => by rw [List.length_cons, List.length_cons, sigOk_len (bs := bs) (ws := ws) h]
  | b :: bs, .own _ :: ws, h => by
    have h' : (b && sigOk bs ws) = true := h
    rw [Bool.and_eq_true] at h'
    rw [List.length_cons, List.length_cons, sigOk_len h'.2]
  | [], _ :: _, h => by cases h
  | _ :: _, [], h => by cases h
theorem sigOk_io : ∀ {bs : List Bool} {ws : List W} {i : Nat} {x : D} (k : Nat), sigOk bs ws = true → ws[i]? = some (.own x) → k + i ∈ ioOf k bs
  | [], [], _, _, _, _, e => by simp at e
  | b :: bs, .d _ :: ws, 0, _, _, _, e => by simp at e
  | b :: bs, .d _ :: ws, i + 1, x, k, h, e => by
    have r := sigOk_io (i := i) (k + 1) (show sigOk bs ws = true from h) (by simpa using e)
    have e2 : k + (i + 1) = k + 1 + i := by omega
    rw [e2]
    cases b with
    | true => exact List.mem_cons_of_mem _ r
    | false => exact r
  | b :: bs, .own _ :: ws, 0, x, k, h, e => by
    have h' : (b && sigOk bs ws) = true := h
    rw [Bool.and_eq_true] at h'
    rw [h'.1]
    exact List.mem_cons_self
  | b :: bs, .own _ :: ws, i + 1, x, k, h, e => by
    have h' : (b && sigOk bs ws) = true := h
    rw [Bool.and_eq_true] at h'
    have r := sigOk_io (i := i) (k + 1) h'.2 (by simpa using e)
    have e2 : k + (i + 1) = k + 1 + i := by omega
    rw [e2]
    cases b with
    | true => exact List.mem_cons_of_mem _ r
    | false => exact r
  | [], _ :: _, _, _, _, h, _ => by cases h
  | _ :: _, [], _, _, _, h, _ => by cases h
theorem outsOf_own {ρ : Rho} : ∀ {ws os : List W} {k i : Nat} {x : D}, outsOf ρ k ws = some os → ws[i]? = some (.own x) → ∃ y, os[i]? = some (.own y) ∧ ρ[k + i]? = some (some (.own y))
  | [], _, _, _, _, _, e => by simp at e
  | .d _ :: ws, os, k, i, x, h, e => by
    unfold outsOf at h
    split at h
    · rename_i os' h'
      have h2 := Option.some.inj h
      subst h2
      cases i with
      | zero => simp at e
      | succ i =>
        obtain ⟨y, h3, h4⟩ := outsOf_own (i := i) h' (by simpa using e)
        exact ⟨y, by simpa using h3, by rw [← h4]; congr 1; omega⟩
    · cases h
  | .own _ :: ws, os, k, i, x, h, e => by
    unfold outsOf at h
    split at h
    · rename_i y os' h1 h'
      have h2 := Option.some.inj h
      subst h2
      cases i with
      | zero => exact ⟨y, rfl, h1⟩
      | succ i =>
        obtain ⟨y, h3, h4⟩ := outsOf_own (i := i) h' (by simpa using e)
        exact ⟨y, by simpa using h3, by rw [← h4]; congr 1; omega⟩
    · cases h
theorem outsOf_shape {ρ : Rho} : ∀ {ws os : List W} {k i : Nat} {y : D}, outsOf ρ k ws = some os → os[i]? = some (.own y) → ∃ x, ws[i]? = some (.own x)
  | [], os, _, _, _, h, e => by
    have h2 : ([] : List W) = os := Option.some.inj h
    subst h2
    simp at e
  | .d _ :: ws, os, k, i, y, h, e => by
    unfold outsOf at h
    split at h
    · rename_i os' h'
      have h2 := Option.some.inj h
      subst h2
      cases i with
      | zero => simp at e
      | succ i => obtain ⟨x, h3⟩ := outsOf_shape (i := i) h' (by simpa using e); exact ⟨x, by simpa using h3⟩
    · cases h
  | .own z :: ws, os, k, i, y, h, e => by
    unfold outsOf at h
    split at h
    · rename_i y' os' h1 h'
      have h2 := Option.some.inj h
      subst h2
      cases i with
      | zero => exact ⟨z, rfl⟩
      | succ i => obtain ⟨x, h3⟩ := outsOf_shape (i := i) h' (by simpa using e); exact ⟨x, by simpa using h3⟩
    · cases h
section
variable {K : PySem.W.Frag} {mg : Str → Option Value} {σ' : St} {ρ' : Rho} {H G H' G' : Hp} {vs : List V} {ws outs : List W} {N : List Str} {sig : List Bool}
theorem startR_get {n i : Nat} {w : W} (h : (startR n ws)[i]? = some (some w)) : ws[i]? = some w := by
  unfold startR at h
  by_cases hi : i < ws.length
  · rw [List.getElem?_append_left (by simpa using hi), List.getElem?_map] at h
    cases e : ws[i]? with
    | none => rw [e] at h; cases h
    | some u => rw [e] at h; cases h; rfl
  · rw [List.getElem?_append_right (by simpa using hi), List.getElem?_replicate] at h
    split at h <;> cases h
theorem start_get {i : Nat} {v : V} (h : vs[i]? = some v) : (L2.start N vs)[i]? = some (some v) := by
  have hi : i < vs.length := (List.getElem?_eq_some_iff.mp h).1
  unfold L2.start
  rw [List.getElem?_append_left (by simpa using hi), List.getElem?_map, h]
  rfl
theorem start_got {i : Nat} {v : V} (h : (L2.start N vs)[i]? = some (some v)) : vs[i]? = some v := by
  unfold L2.start at h
  by_cases hi : i < vs.length
  · rw [List.getElem?_append_left (by simpa using hi), List.getElem?_map] at h
    cases e : vs[i]? with
    | none => rw [e] at h; cases h
    | some u => rw [e] at h; cases h; rfl
  · rw [List.getElem?_append_right (by simpa using hi), List.getElem?_replicate] at h
    split at h <;> cases h
theorem EntA.rel {fl : Flr} (e : EntA K mg fl vs ws H G) : Rel K mg fl (L2.start N vs) (startR N.length ws) H G := by
  refine ⟨?_, e.sub, fun i w hw => ?_, fun i j x y v h1 h2 h3 h4 => e.dis i j x y v (startR_get h1) (startR_get h2) (start_got h3) (start_got h4), e.floor, e.tabs, e.ntb⟩
  · unfold startR L2.start
    simp [e.len]
  · obtain ⟨v, h1, h2⟩ := e.val i w (startR_get hw)
    exact ⟨v, start_get h1, h2⟩
theorem OwnS.args {b : Addr} (h : OwnS (L2.start N vs) (startR N.length ws) b) : OwnA vs ws b := by
  obtain ⟨i, x, h1, h2⟩ := h
  exact ⟨i, x, startR_get h1, start_got h2⟩
/-- behind the body -/
theorem exitA {fl : Flr} (e : EntA K mg fl vs ws H G) (hs : sigOk sig ws = true) (R : Rel K mg fl σ' ρ' H' G') (F : Fr (ioOf 0 sig) (L2.start N vs) (startR N.length ws) H G σ' ρ' H' G') (ho : outsOf ρ' 0 ws = some outs) :
    ExA K mg fl vs ws outs H G H' G' ∧ ∀ b, OwnA vs ws b → OwnS σ' ρ' b := by
  have key : ∀ (i : Nat) (x : D), ws[i]? = some (.own x) → ∃ (y : D) (a : Addr), outs[i]? = some (.own y) ∧ ρ'[i]? = some (some (.own y)) ∧ σ'[i]? = some (some (.ref a)) ∧ vs[i]? = some (.ref a) ∧ G' a = none ∧ RO K mg H' G' a y := fun i x hx => by
    obtain ⟨y, h1, h2⟩ := outsOf_own ho hx
    rw [Nat.zero_add] at h2
    obtain ⟨v, h3, a, ea, ga, ro⟩ := R.slot i _ h2
    have hio : i ∈ ioOf 0 sig := by
      have := sigOk_io 0 hs hx
      rwa [Nat.zero_add] at this
    have h4 := F.fix i hio
    rw [h3] at h4
    subst ea
    exact ⟨y, a, h1, h2, h3, start_got h4.symm, ga, ro⟩
  refine ⟨⟨F.grow, R.sub, fun b o hb nt hg hn => ?_, fun i x hx => ?_, fun i y hy => outsOf_shape ho hy, R.tabs, R.ntb⟩, fun b ⟨i, x, h1, h2⟩ => ?_⟩
  · obtain ⟨k1, k2, _⟩ := F.keep b o hb nt hg fun z => hn (OwnS.args z)
    exact ⟨k1, k2⟩
  · obtain ⟨y, a, h1, _, _, h4, h5, h6⟩ := key i x hx
    exact ⟨y, a, h1, h4, h5, h6⟩
  · obtain ⟨y, a, _, h3, h4, h5, _, _⟩ := key i x h1
    rw [h2] at h5
    cases h5
    exact ⟨i, y, h3, h4⟩
end
/-- THE RULE for a def: its body's reading -/
theorem fnX_of {P : Program} {w : World} {K : PySem.W.Frag} {mg : Str → Option Value} {base : Heap} {k : Nat} {f : Addr} {name qual : Str} {params : Arguments} {body : List Stmt} {scope : Scope} {dV kV doc pm cdv ct oc : Value} {an od : Option Addr}
    {osl : Array (Option Value)} {N ps : List Str} {sig : List Bool} {T : List (Addr × Str) → Prop} {m : Addr → (D → FR) → M Fl}
    (lk : K.lookup f = some ⟨oc, od, .func (PySem.W.fnOf name qual params body scope dV kV doc pm an cdv ct), osl⟩) (hcd : PySem.W.codeIn K cdv qual = true) (S : FnScope N ps scope) (hsig : sig.length = ps.length)
    (hbody : ∀ (A : Around) (outer : List Env) (s : Shared) (H : Hp) (E : XK) (fl : Flr) (Λ : D → FR), T fl.T → LamVs P w K mg base fl Λ → base.objs.size ≤ s.heap.objs.size → Room k (A.deeper (envOfC qual scope s.heap.objs.size f cdv)) → A.guards = some [] →
      PMSs (cxOf (L2.CX P w) P w K mg base N qual scope f cdv A outer s H E) ⟨fun cls d _ H' => E cls d H', fl⟩ (ioOf 0 sig) body (m s.heap.objs.size Λ)) :
    FnX P w K mg base T (k + 1) f (PySem.W.fnOf name qual params body scope dV kV doc pm an cdv ct) ps (fun a Λ => fnM N.length sig (m a Λ)) := by
  have ar : ∀ m ws, fnM N.length sig m ws ≠ .bad → sigOk sig ws = true := fun m ws h => by
    cases e : sigOk sig ws with
    | true => rfl
    | false =>
      refine absurd ?_ h
      unfold fnM
      rw [e]
      rfl
  refine ⟨fun a Λ ws h => (sigOk_len (ar (m a Λ) ws h)).trans hsig, fun A outer s H args us vs Q E fl Λ hT hr gd lv e0 hb r hsp => ?_⟩
  obtain ⟨ws, G, ent, hF⟩ := hsp
  have hs : sigOk sig ws = true := ar _ ws fun z => by rw [z] at hF; exact hF
  have hl : vs.length = ps.length := ent.len.trans ((sigOk_len hs).trans hsig)
  have inK : K.In s.heap := e0.mod.kin.keeps fun b o e => (e0.bs b o e).1
  have noLim : s.heap.NoLimit := e0.mod.nolimit.keeps fun b o e => (e0.bs b o e).1
  have kinds : ∀ y ∈ ps.zip us, scope.names.lookup y.1 = some .local ∨ (scope.names.lookup y.1 = some .cell ∧ ((cellsFrom (s.heap.objs.size + 1) scope.names []).lookup y.1).isSome = true) := fun y hy =>
    (S.par y.1 (List.of_mem_zip (a := y.1) (b := y.2) hy).1).imp id fun q => ⟨q, PySem.W.cellsFrom_some _ _ _ (.inl q)⟩
  refine codeAny_call_function hr.depth (inK _ _ lk) rfl S.co S.gen rfl (PySem.W.codeRec_of inK hcd) (hb _ _ _ _ (wpAny_newFunctionEnv_cells S.kind kinds fun env he s1 x => ?_))
  subst he
  have I := inv_start (CX := L2.CX P w) (E := E) S hr.hd e0 hl r x
  have body := (hbody A outer s H E fl Λ hT lv e0.bsz (hr.deeper _) gd).run [] s1 (L2.start N vs) H { nx := fun _ H' => Q .non H', rt := Q } I ⟨startR N.length ws, G, ent.rel, ?_⟩
  · refine ⟨noLim.keeps x.toInCall.keep, codeAny_func (wpAny_mono body (fun flw s' q => ?_) fun e s' q => q)⟩
    cases flw with
    | ret u => exact let ⟨v, σ', H', J, rv, q⟩ := q; ⟨v, H', J.os, J.bare, J.base, J.hok, rv, q⟩
    | next => exact let ⟨σ', H', J, q⟩ := q; ⟨V.non, H', J.os, J.bare, J.base, J.hok, rfl, q⟩
    | brk => exact q.elim fun _ q => q.elim fun _ q => q.2.elim
    | cont => exact q.elim fun _ q => q.elim fun _ q => q.2.elim
  · unfold fnM at hF
    rw [if_pos hs] at hF
    cases em : m s.heap.objs.size Λ (startR N.length ws) with
    | bad => rw [em] at hF; exact hF
    | exc c fs ρ' =>
      rw [em] at hF
      intro cls od σ' H' G' R F rx
      dsimp only at hF
      split at hF
      · rename_i c' fs' os' e1
        cases e2 : outsOf ρ' 0 ws with
        | none => rw [e2] at e1; cases e1
        | some os => rw [e2] at e1; cases e1
      · rename_i c' fs' os' e1
        cases e2 : outsOf ρ' 0 ws with
        | none => rw [e2] at e1; cases e1
        | some os =>
          rw [e2] at e1
          cases e1
          exact hF cls od H' G' (exitA ent hs R F e2).1 rx
      · exact hF.elim
    | ok flw ρ' =>
      rw [em] at hF
      have fin : ∀ w, (match finF ws w ρ' with
          | .ok w outs => ∀ v H' G', ExA K mg fl vs ws outs H G H' G' → RW K mg H' G' v w → (∀ x a, w = .own x → v = .ref a → ∀ o, H a = some o → ¬ KP o) → Q v H'
          | .exc c fs outs => ∀ cls od H' G', ExA K mg fl vs ws outs H G H' G' → RX K mg H' G' cls od c fs → E cls od H'
          | .bad => False) → ∀ v σ' H' G', Rel K mg fl σ' ρ' H' G' → Fr (ioOf 0 sig) (L2.start N vs) (startR N.length ws) H G σ' ρ' H' G' → RR K mg (L2.start N vs) (startR N.length ws) H σ' ρ' H' G' v w → Q v H' := fun w hw v σ' H' G' R F rr => by
        unfold finF at hw
        cases e2 : outsOf ρ' 0 ws with
        | none => rw [e2] at hw; exact hw.elim
        | some os =>
          rw [e2] at hw
          obtain ⟨ex, own⟩ := exitA ent hs R F e2
          refine hw v H' G' ex rr.1 fun x a e3 e4 o e5 nt => ?_
          obtain ⟨r1, r2⟩ := rr.2 x a e3 e4
          exact r1 (own a (r2 o e5 nt).args)
      cases flw with
      | nx => exact fun σ' H' G' R F => fin _ hF .non σ' H' G' R F ⟨rfl, fun _ _ z => nomatch z⟩
      | ret w => exact fun v σ' H' G' R F rr => fin w hF v σ' H' G' R F rr
      | brk => exact hF.elim
      | cont => exact hF.elim
end FL
set_option Elab.async false
set_option linter.all false
set_option maxRecDepth 100000
set_option maxHeartbeats 2000000
namespace FL
open PySem PySem.Spec L2
open PyProof.Rows hiding St
/-- an operand as an argument: a slot's own object goes by reference -/
def A.arg (ρ : Rho) : A → Option W
  | .val x => some (.d x)
  | .ref i => match ρ[i]? with
    | some (some w) => some w
    | _ => none
def argsOf (ρ : Rho) : List A → Option (List W)
  | [] => some []
  | a :: as => match a.arg ρ, argsOf ρ as with
    | some w, some ws => some (w :: ws)
    | _, _ => none
/-- the slots that go by reference -/
def refsOf : List A → List W → List Nat
  | .ref i :: as, .own _ :: ws => i :: refsOf as ws
  | _ :: as, _ :: ws => refsOf as ws
  | _, _ => []
def setOuts : List A → List W → Rho → Rho
  | .ref i :: as, .own y :: os, ρ => setOuts as os (ρ.set i (some (.own y)))
  | _ :: as, _ :: os, ρ => setOuts as os ρ
  | _, _, ρ => ρ
def onceB : List Nat → Bool
  | [] => true
  | i :: is => !is.contains i && onceB is
def callM (F : FnSem) (ms : M (List A)) : M W := fun ρ => (ms ρ).bind fun as ρ => match argsOf ρ as with
  | some ws => if onceB (refsOf as ws) = true then
      match F ws with
      | .ok w outs => .ok w (setOuts as outs ρ)
      | .exc c fs outs => .exc c fs (setOuts as outs ρ)
      | .bad => .bad
    else .bad
  | none => .bad
section
variable {K : PySem.W.Frag} {mg : Str → Option Value} {Wx : WG} {σ : St} {ρ : Rho} {H G H' G' : Hp} {Q : VK} {vs : List V} {ws outs : List W} {as : List A}
theorem argsOf_len : ∀ {as : List A} {ws : List W}, argsOf ρ as = some ws → as.length = ws.length
  | [], ws, h => by
    have h2 : ([] : List W) = ws := Option.some.inj h
    subst h2
    rfl
  | a :: as, ws, h => by
    unfold argsOf at h
    split at h
    · rename_i w ws' h1 h2
      have h3 := Option.some.inj h
      rw [← h3, List.length_cons, List.length_cons, argsOf_len h2]
    · cases h
theorem argsOf_get : ∀ {as : List A} {ws : List W} {i : Nat} {w : W}, argsOf ρ as = some ws → ws[i]? = some w → ∃ a, as[i]? = some a ∧ a.arg ρ = some w
  | [], ws, i, w, h, e => by
    have h2 : ([] : List W) = ws := Option.some.inj h
    rw [← h2] at e
    simp at e
  | a :: as, ws, i, w, h, e => by
    unfold argsOf at h
    split at h
    · rename_i w' ws' h1 h2
      have h3 := Option.some.inj h
      rw [← h3] at e
      cases i with
      | zero =>
        have e' : w' = w := by simpa using e
        rw [← e']
        exact ⟨a, rfl, h1⟩
      | succ i =>
        obtain ⟨b, h4, h5⟩ := argsOf_get (i := i) h2 (by simpa using e)
        exact ⟨b, by simpa using h4, h5⟩
    · cases h
theorem RAs.len : ∀ {vs : List V} {as : List A}, RAs K mg σ G vs as → vs.length = as.length
  | [], [], _ => rfl
  | _ :: _, _ :: _, ⟨_, t⟩ => by rw [List.length_cons, List.length_cons, RAs.len t]
  | [], _ :: _, h => h.elim
  | _ :: _, [], h => h.elim
theorem RAs.get : ∀ {vs : List V} {as : List A} {i : Nat} {a : A}, RAs K mg σ G vs as → as[i]? = some a → ∃ v, vs[i]? = some v ∧ RAt K mg σ G v a
  | [], [], _, _, _, e => by simp at e
  | v :: vs, a :: as, 0, b, ⟨h, t⟩, e => by
    have e' : a = b := by simpa using e
    rw [← e']
    exact ⟨v, rfl, h⟩
  | v :: vs, a :: as, i + 1, b, ⟨h, t⟩, e => by
    obtain ⟨u, h1, h2⟩ := RAs.get (i := i) t (by simpa using e)
    exact ⟨u, by simpa using h1, h2⟩
  | [], _ :: _, _, _, h, _ => h.elim
  | _ :: _, [], _, _, h, _ => h.elim
theorem own_ref {a : A} {x : D} (h : a.arg ρ = some (.own x)) : ∃ i, a = .ref i ∧ ρ[i]? = some (some (.own x)) := by
  cases a with
  | val y => cases (show some (W.d y) = some (.own x) from h)
  | ref i =>
    refine ⟨i, rfl, ?_⟩
    have h' : (match ρ[i]? with
      | some (some w) => some w
      | _ => none) = some (.own x) := h
    split at h'
    · rename_i w e
      cases h'
      exact e
    · cases h'
theorem refsOf_mem : ∀ {as : List A} {ws : List W} {i k : Nat} {x : D}, as[i]? = some (.ref k) → ws[i]? = some (.own x) → k ∈ refsOf as ws
  | [], _, _, _, _, h, _ => by simp at h
  | _ :: _, [], _, _, _, _, h => by simp at h
  | a :: as, w :: ws, 0, k, x, h1, h2 => by
    have e1 : a = .ref k := by simpa using h1
    have e2 : w = .own x := by simpa using h2
    subst e1 e2
    exact List.mem_cons_self
  | a :: as, w :: ws, i + 1, k, x, h1, h2 => by
    have r := refsOf_mem (i := i) (as := as) (ws := ws) (k := k) (x := x) (by simpa using h1) (by simpa using h2)
    cases a with
    | val _ => exact r
    | ref j =>
      cases w with
      | d _ => exact r
      | own _ => exact List.mem_cons_of_mem _ r
theorem refs_once : ∀ {as : List A} {ws : List W} {i j k : Nat} {x y : D}, onceB (refsOf as ws) = true → as[i]? = some (.ref k) → as[j]? = some (.ref k) → ws[i]? = some (.own x) → ws[j]? = some (.own y) → i = j
  | [], _, _, _, _, _, _, _, h, _, _, _ => by simp at h
  | _ :: _, [], _, _, _, _, _, _, _, _, h, _ => by simp at h
  | a :: as, w :: ws, i, j, k, x, y, ho, h1, h2, h3, h4 => by
    have tail : onceB (refsOf as ws) = true := by
      cases a with
      | val _ => exact ho
      | ref q =>
        cases w with
        | d _ => exact ho
        | own _ =>
          have ho' : (!(refsOf as ws).contains q && onceB (refsOf as ws)) = true := ho
          rw [Bool.and_eq_true] at ho'
          exact ho'.2
    have clash : ∀ {m : Nat} {z : D}, a = .ref k → w = .own x ∨ w = .own y → as[m]? = some (.ref k) → ws[m]? = some (.own z) → False := fun {m z} e1 e2 e3 e4 => by
      subst e1
      have hm := refsOf_mem e3 e4
      obtain ⟨z2, ew⟩ : ∃ z2, w = .own z2 := e2.elim (fun e => ⟨_, e⟩) fun e => ⟨_, e⟩
      subst ew
      have ho' : (!(refsOf as ws).contains k && onceB (refsOf as ws)) = true := ho
      rw [Bool.and_eq_true] at ho'
      have c1 : (refsOf as ws).contains k = false := by simpa using ho'.1
      have c2 : (refsOf as ws).contains k = true := by simpa using hm
      rw [c1] at c2
      cases c2
    cases i with
    | zero =>
      cases j with
      | zero => rfl
      | succ j => exact (clash (by simpa using h1) (.inl (by simpa using h3)) (by simpa using h2) (by simpa using h4)).elim
    | succ i =>
      cases j with
      | zero => exact (clash (by simpa using h2) (.inr (by simpa using h4)) (by simpa using h1) (by simpa using h3)).elim
      | succ j => rw [refs_once (i := i) (j := j) tail (by simpa using h1) (by simpa using h2) (by simpa using h3) (by simpa using h4)]
/-- what goes in -/
theorem entA_of (R : Rel K mg fl σ ρ H G) (ra : RAs K mg σ G vs as) (hw : argsOf ρ as = some ws) (ho : onceB (refsOf as ws) = true) : EntA K mg fl vs ws H G := by
  have one : ∀ (i : Nat) (x : D), ws[i]? = some (.own x) → ∃ k v, as[i]? = some (.ref k) ∧ ρ[k]? = some (some (.own x)) ∧ vs[i]? = some v ∧ σ[k]? = some (some v) := fun i x h => by
    obtain ⟨a, h1, h2⟩ := argsOf_get hw h
    obtain ⟨k, ea, hk⟩ := own_ref h2
    subst ea
    obtain ⟨v, h3, h4⟩ := ra.get h1
    exact ⟨k, v, h1, hk, h3, h4⟩
  refine ⟨ra.len.trans (argsOf_len hw), R.sub, fun i w h => ?_, fun i j x y v h1 h2 h3 h4 => ?_, R.floor, R.tabs, R.ntb⟩
  · obtain ⟨a, h1, h2⟩ := argsOf_get hw h
    obtain ⟨v, h3, h4⟩ := ra.get h1
    refine ⟨v, h3, ?_⟩
    cases a with
    | val x =>
      cases (show some (W.d x) = some w from h2)
      exact h4
    | ref k =>
      have h2' : (match ρ[k]? with
        | some (some w) => some w
        | _ => none) = some w := h2
      split at h2'
      · rename_i u e
        cases h2'
        obtain ⟨v', s, q⟩ := R.slot k w e
        have h4' : σ[k]? = some (some v) := h4
        rw [h4'] at s
        cases s
        exact q
      · cases h2'
  · obtain ⟨k1, v1, a1, b1, c1, d1⟩ := one i x h1
    obtain ⟨k2, v2, a2, b2, c2, d2⟩ := one j y h2
    rw [h3] at c1
    cases c1
    rw [h4] at c2
    cases c2
    have ek := R.dis k1 k2 x y v b1 b2 d1 d2
    subst ek
    exact refs_once ho a1 a2 h1 h2
theorem setOuts_len : ∀ (as : List A) (os : List W) (ρ : Rho), (setOuts as os ρ).length = ρ.length
  | [], _, _ => rfl
  | .val _ :: _, [], _ => rfl
  | .ref _ :: _, [], _ => rfl
  | .val _ :: as, .d _ :: os, ρ => setOuts_len as os ρ
  | .val _ :: as, .own _ :: os, ρ => setOuts_len as os ρ
  | .ref _ :: as, .d _ :: os, ρ => setOuts_len as os ρ
  | .ref i :: as, .own y :: os, ρ => by
    have := setOuts_len as os (ρ.set i (some (.own y)))
    rw [List.length_set] at this
    exact this
/-- a slot behind the call: written, or as it was -/
theorem setOuts_get {j : Nat} : ∀ {as : List A} {os : List W} {ρ : Rho}, j < ρ.length →
    (∃ (i : Nat) (y : D), as[i]? = some (A.ref j) ∧ os[i]? = some (W.own y) ∧ (setOuts as os ρ)[j]? = some (some (W.own y))) ∨ ((∀ (i : Nat) (y : D), as[i]? = some (A.ref j) → os[i]? ≠ some (W.own y)) ∧ (setOuts as os ρ)[j]? = ρ[j]?)
  | [], _, _, _ => .inr ⟨fun i y h => by simp at h, rfl⟩
  | .val _ :: _, [], _, _ => .inr ⟨fun i y _ h => by simp at h, rfl⟩
  | .ref _ :: _, [], _, _ => .inr ⟨fun i y _ h => by simp at h, rfl⟩
  | .val z :: as, o :: os, ρ, hj => by
    have e : setOuts (.val z :: as) (o :: os) ρ = setOuts as os ρ := by cases o <;> rfl
    rw [e]
    rcases setOuts_get (as := as) (os := os) hj with ⟨i, y, h1, h2, h3⟩ | ⟨h1, h2⟩
    · exact .inl ⟨i + 1, y, by simpa using h1, by simpa using h2, h3⟩
    · refine .inr ⟨fun i y a b => ?_, h2⟩
      cases i with
      | zero => simp at a
      | succ i => exact h1 i y (by simpa using a) (by simpa using b)
  | .ref k :: as, .d z :: os, ρ, hj => by
    have e : setOuts (.ref k :: as) (.d z :: os) ρ = setOuts as os ρ := rfl
    rw [e]
    rcases setOuts_get (as := as) (os := os) hj with ⟨i, y, h1, h2, h3⟩ | ⟨h1, h2⟩
    · exact .inl ⟨i + 1, y, by simpa using h1, by simpa using h2, h3⟩
    · refine .inr ⟨fun i y a b => ?_, h2⟩
      cases i with
      | zero => simp at b
      | succ i => exact h1 i y (by simpa using a) (by simpa using b)
  | .ref k :: as, .own z :: os, ρ, hj => by
    have e : setOuts (.ref k :: as) (.own z :: os) ρ = setOuts as os (ρ.set k (some (.own z))) := rfl
    rw [e]
    rcases setOuts_get (as := as) (os := os) (ρ := ρ.set k (some (.own z))) (by rw [List.length_set]; exact hj) with ⟨i, y, h1, h2, h3⟩ | ⟨h1, h2⟩
    · exact .inl ⟨i + 1, y, by simpa using h1, by simpa using h2, h3⟩
    · by_cases hk : k = j
      · subst hk
        exact .inl ⟨0, z, rfl, rfl, by rw [h2, List.getElem?_set_self hj]⟩
      · refine .inr ⟨fun i y a b => ?_, by rw [h2, List.getElem?_set_ne hk]⟩
        cases i with
        | zero =>
          have : k = j := by simpa using a
          exact hk this
        | succ i => exact h1 i y (by simpa using a) (by simpa using b)
/-- behind the call -/
theorem call_back (R : Rel K mg fl σ ρ H G) (ra : RAs K mg σ G vs as) (hw : argsOf ρ as = some ws) (ex : ExA K mg fl vs ws outs H G H' G') :
    Rel K mg fl σ (setOuts as outs ρ) H' G' ∧ Fr [] σ ρ H G σ (setOuts as outs ρ) H' G' ∧ ∀ b, OwnS σ (setOuts as outs ρ) b → OwnS σ ρ b := by
  have argO : ∀ (i : Nat) (x : D), ws[i]? = some (.own x) → ∃ k v, as[i]? = some (.ref k) ∧ ρ[k]? = some (some (.own x)) ∧ vs[i]? = some v ∧ σ[k]? = some (some v) := fun i x h => by
    obtain ⟨a, h1, h2⟩ := argsOf_get hw h
    obtain ⟨k, ea, hk⟩ := own_ref h2
    subst ea
    obtain ⟨v, h3, h4⟩ := ra.get h1
    exact ⟨k, v, h1, hk, h3, h4⟩
  have lt : ∀ {j : Nat} {w : Option W}, (setOuts as outs ρ)[j]? = some w → j < ρ.length := fun {j w} h => by
    have := (List.getElem?_eq_some_iff.mp h).1
    rwa [setOuts_len] at this
  -- an own slot behind the call was one ahead of it
  have was : ∀ {j : Nat} {y : D}, (setOuts as outs ρ)[j]? = some (some (.own y)) → ∃ x, ρ[j]? = some (some (.own x)) := fun {j y} h => by
    rcases setOuts_get (as := as) (os := outs) (ρ := ρ) (lt h) with ⟨i, z, h1, h2, _⟩ | ⟨_, h2⟩
    · obtain ⟨x, hx⟩ := ex.shape i z h2
      obtain ⟨k, v, a1, a2, _, _⟩ := argO i x hx
      rw [h1] at a1
      cases a1
      exact ⟨x, a2⟩
    · exact ⟨y, h2.symm.trans h⟩
  have argS : ∀ b, OwnA vs ws b → OwnS σ ρ b := fun b ⟨i, x, h1, h2⟩ => by
    obtain ⟨k, v, _, a2, a3, a4⟩ := argO i x h1
    rw [h2] at a3
    cases a3
    exact ⟨k, x, a2, a4⟩
  have back : ∀ b, OwnS σ (setOuts as outs ρ) b → OwnS σ ρ b := fun b ⟨j, y, h1, h2⟩ => by
    obtain ⟨x, hx⟩ := was h1
    exact ⟨j, x, hx, h2⟩
  refine ⟨⟨(setOuts_len as outs ρ).trans R.len, ex.sub, fun j w h => ?_, fun i j x y v h1 h2 h3 h4 => ?_, R.floor.trans ex.grow, ex.tabs, ex.ntb⟩, ⟨ex.grow, fun b o hb nt hg hn => ?_, fun _ h => absurd h (by simp), rfl⟩, back⟩
  · rcases setOuts_get (as := as) (os := outs) (ρ := ρ) (lt h) with ⟨i, z, h1, h2, h3⟩ | ⟨h1, h2⟩
    · rw [h] at h3
      cases h3
      obtain ⟨x, hx⟩ := ex.shape i z h2
      obtain ⟨k, v, a1, a2, a3, a4⟩ := argO i x hx
      rw [h1] at a1
      cases a1
      obtain ⟨y, a, b1, b2, b3, b4⟩ := ex.out i x hx
      rw [h2] at b1
      cases b1
      rw [a3] at b2
      cases b2
      exact ⟨_, a4, a, rfl, b3, b4⟩
    · rw [h] at h2
      obtain ⟨v, s, q⟩ := R.slot j w h2.symm
      refine ⟨v, s, q.mono ex.grow fun x a e1 e2 => ?_⟩
      subst e1 e2
      obtain ⟨a', ea, ga, ro⟩ := q
      cases ea
      obtain ⟨o, ho, _, hld⟩ := ro.there
      obtain ⟨k1, k2⟩ := ex.keep a o ho hld.kp ga fun ⟨i, x', c1, c2⟩ => by
        obtain ⟨k, v, a1, a2, a3, a4⟩ := argO i x' c1
        rw [c2] at a3
        cases a3
        have ek := R.dis k j x' x (.ref a) a2 h2.symm a4 s
        subst ek
        obtain ⟨y, _, b1, _, _, _⟩ := ex.out i x' c1
        exact h1 i y a1 b1
      exact ⟨k1.trans ho.symm, k2⟩
  · obtain ⟨x', hx⟩ := was h1
    obtain ⟨y', hy⟩ := was h2
    exact R.dis i j x' y' v hx hy h3 h4
  · obtain ⟨k1, k2⟩ := ex.keep b o hb nt hg fun z => hn (argS b z)
    exact ⟨k1, k2, fun z => hn (back b z)⟩
/-- the callee's promise at such arguments -/
theorem call_spG {F : FnSem} (R : Rel K mg Wx.fl σ ρ H G) (ra : RAs K mg σ G vs as) (h : GoE K mg Wx σ ρ H G (match argsOf ρ as with
    | some ws => if onceB (refsOf as ws) = true then
        match F ws with
        | .ok w outs => .ok w (setOuts as outs ρ)
        | .exc c fs outs => .exc c fs (setOuts as outs ρ)
        | .bad => .bad
      else .bad
    | none => .bad) Q) : ∃ ws, EntA K mg Wx.fl vs ws H G ∧ match F ws with
      | .ok w outs => ∀ v H' G', ExA K mg Wx.fl vs ws outs H G H' G' → RW K mg H' G' v w → (∀ x a, w = .own x → v = .ref a → ∀ o, H a = some o → ¬ KP o) → Q v H'
      | .exc c fs outs => ∀ cls od H' G', ExA K mg Wx.fl vs ws outs H G H' G' → RX K mg H' G' cls od c fs → Wx.w cls od σ H'
      | .bad => False := by
  cases hw : argsOf ρ as with
  | none => rw [hw] at h; exact h.elim
  | some ws =>
    rw [hw] at h
    dsimp only at h
    split at h
    · rename_i ho
      refine ⟨ws, entA_of R ra hw ho, ?_⟩
      cases hF : F ws with
      | bad => rw [hF] at h; exact h.elim
      | ok w outs =>
        rw [hF] at h
        intro v H' G' ex rw' nw
        obtain ⟨R', F', back⟩ := call_back R ra hw ex
        refine h v H' G' R' F' ⟨rw', fun x a e1 e2 => ⟨fun z => ?_, fun o ho nt => absurd nt (nw x a e1 e2 o ho)⟩⟩
        obtain ⟨j, y, z1, z2⟩ := back a z
        obtain ⟨v', s', q⟩ := R.slot j _ z1
        rw [z2] at s'
        cases s'
        obtain ⟨a', ea, _, ro⟩ := q
        cases ea
        obtain ⟨o, ho, _, hld⟩ := ro.there
        exact nw x a e1 e2 o ho hld.kp
      | exc c fs outs =>
        rw [hF] at h
        intro cls od H' G' ex rx
        obtain ⟨R', F', _⟩ := call_back R ra hw ex
        exact h cls od H' G' R' F' rx
    · exact h.elim
theorem call_sp {F : FnSem} (R : Rel K mg Wx.fl σ ρ H G) (ra : RAs K mg σ G vs as) (h : GoE K mg Wx σ ρ H G (match argsOf ρ as with
    | some ws => if onceB (refsOf as ws) = true then
        match F ws with
        | .ok w outs => .ok w (setOuts as outs ρ)
        | .exc c fs outs => .exc c fs (setOuts as outs ρ)
        | .bad => .bad
      else .bad
    | none => .bad) Q) : spF K mg Wx.fl F vs H Q fun cls od H' => Wx.w cls od σ H' :=
  let ⟨ws, e, q⟩ := call_spG R ra h
  ⟨ws, G, e, q⟩
end
section
variable {X : Cx} {Wx : WG} {k : Nat} {f : Addr} {fd : FuncData} {ps : List Str} {F : (D → FR) → FnSem} {Λ : D → FR} {x : Str} {p pos : Pos} {e : Expr} {es : List Expr} {ms : M (List A)}
theorem run_fnG {pins : List (Addr × Obj)} {σ : St} {H : Hp} {s : Shared} {Q : VK} {us : List Value} {vs : List V} (FG : FnL X.prog X.w X.K X.mg X.base k f fd ps F) (lv : LamVs X.prog X.w X.K X.mg X.base Wx.fl Λ) (hr : Room k X.A) (hgd : X.A.guards = some []) (hb : Binds X.K fd ps []) (tk : Takes X Wx.w)
    (I : Inv X pins σ H s) (r : Vals vs us) (h : spF X.K X.mg Wx.fl (F Λ) vs H Q fun cls od H' => Wx.w cls od σ H') : wpAny (model X.prog X.w) X.A (call (.ref f) us) (EP X pins σ Q) X.xe s := by
  have hl : us.length = ps.length := by
    obtain ⟨ws, G, ent, hF⟩ := h
    rw [← r.length, ent.len]
    exact FG.arity s.heap.objs.size Λ ws fun z => by rw [z] at hF; exact hF
  have bt := hb s us I.kIn (by rw [List.append_nil]; exact hl)
  rw [List.append_nil] at bt
  refine wpAny_call (codeAny_mono (FG.run X.A X.stack s H ⟨us, []⟩ us vs Q _ Wx.fl Λ True.intro hr hgd lv I.env0 bt r h) fun res s' q => ?_)
  match res, q with
  | .error e, q => exact tk e s' (XE.of_call I (fun _ _ _ z => z) q)
  | .ok (.ret u), q => exact I.after q
  | .ok .next, q => exact False.elim q
  | .ok .brk, q => exact False.elim q
  | .ok .cont, q => exact False.elim q
theorem callM_sp {F : FnSem} {σ : St} {H : Hp} {Q : VK} (h : tM X.K X.mg Wx (callM F ms) σ H Q) : tAs X.K X.mg Wx ms σ H fun vs H1 => spF X.K X.mg Wx.fl F vs H1 Q fun cls od H' => Wx.w cls od σ H' := by
  obtain ⟨ρ, G, R, h⟩ := h
  exact tAs_mono (tAs_bind R h) fun vs H1 ⟨as, ρ1, G1, R1, ra, F1, g⟩ => call_sp R1 ra g
/-- f(e, ..), f a def of the text -/
theorem pm_call (FG : FnL X.prog X.w X.K X.mg X.base k f fd ps F) (lv : LamVs X.prog X.w X.K X.mg X.base Wx.fl Λ) (hr : Room k X.A) (hgd : X.A.guards = some []) (hg : Gl X x) (hm : X.mg x = some (.ref f)) (hk : PySem.W.keepIn X.K (.ref f) = true) (hb : Binds X.K fd ps []) (tk : Takes X Wx.w)
    (ha : PMAs X Wx (e :: es) ms) (hdb : (x == ("__debug__" : Str)) = false) (he : starEach (e :: es) X.env = (false, eval e X.env) :: starEach es X.env) (hpl : (backTo pos (starEach es X.env)).any (·.1) = false) : PM X Wx (.Call (.Name x p) (e :: es) [] pos) (callM (F Λ) ms) := by
  refine ⟨fun pins s σ H Q I h => wpAny_Call_Name_kw (ld_glob I hg hm ?_ hdb)⟩
  exact PySem.W.callWith_K (h₀ := X.base) I.ok.mod.kin hk (thn (ha.run pos pins s σ H _ I (callM_sp h)) fun us s1 ⟨vs, H1, I1, r, q⟩ => ⟨I1.kIn, run_fnG FG lv hr hgd hb tk I1 r q⟩) he hpl
/-- f() -/
theorem pm_call0 (FG : FnL X.prog X.w X.K X.mg X.base k f fd ps F) (lv : LamVs X.prog X.w X.K X.mg X.base Wx.fl Λ) (hr : Room k X.A) (hgd : X.A.guards = some []) (hg : Gl X x) (hm : X.mg x = some (.ref f)) (hk : PySem.W.keepIn X.K (.ref f) = true) (hb : Binds X.K fd ps []) (tk : Takes X Wx.w)
    (hdb : (x == ("__debug__" : Str)) = false) : PM X Wx (.Call (.Name x p) [] [] pos) (callM (F Λ) nilA) := by
  refine ⟨fun pins s σ H Q I h => wpAny_Call_Name_kw (ld_glob I hg hm ?_ hdb)⟩
  refine PySem.W.callWith_K0 I.kIn hk (run_fnG (us := []) (vs := []) FG lv hr hgd hb tk I .nil ?_)
  obtain ⟨ρ, G, R, h⟩ := h
  exact call_sp (as := []) R True.intro h
end
end FL
set_option Elab.async false
set_option linter.all false
set_option maxRecDepth 100000
set_option maxHeartbeats 2000000
namespace FL
open PySem PySem.Spec L2
open PyProof.Rows hiding St
def tyN : D → Option String
  | .non => some "NoneType"
  | .bl _ => some "bool"
  | .int _ => some "int"
  | .str _ => some "str"
  | .tup _ => some "tuple"
  | .lst _ => some "list"
  | .scr _ => some "list"
  | .dct _ => some "dict"
  | _ => none
def tyKnown (n : String) : Bool := ["int", "bool", "str", "tuple", "list", "dict"].contains n
def subTy (t n : String) : Bool := t == n || (t == "bool" && n == "int")
def clsN : D → Option String
  | .ty n => if tyKnown n = true then some n else none
  | _ => none
def clsNs : List D → Option (List String)
  | [] => some []
  | d :: ds => match clsN d, clsNs ds with
    | some n, some ns => some (n :: ns)
    | _, _ => none
theorem kit_ty (K : PySem.W.Frag) : ∀ t ∈ ["NoneType", "bool", "int", "str", "tuple", "list", "dict"], ∀ n ∈ ["int", "bool", "str", "tuple", "list", "dict"], PySem.W.kitOne K (.type t) (.type n) = some (subTy t n) := by
  intro t ht n hn
  simp only [List.mem_cons, List.not_mem_nil, or_false] at ht hn
  rcases ht with rfl | rfl | rfl | rfl | rfl | rfl | rfl <;> rcases hn with rfl | rfl | rfl | rfl | rfl | rfl <;> kernel_rfl
def isiW : List D → Option W
  | [x, .ty n] => match tyN x, clsN (.ty n) with
    | some t, some m => some (.d (.bl (subTy t m)))
    | _, _ => none
  | [x, .tup cs] => match tyN x, clsNs cs with
    | some t, some ms => some (.d (.bl (ms.any fun m => subTy t m)))
    | _, _ => none
  | _ => none
theorem tyN_mem {d : D} {t : String} (h : tyN d = some t) : t ∈ ["NoneType", "bool", "int", "str", "tuple", "list", "dict"] := by
  unfold tyN at h
  split at h <;> first
    | (cases h; simp)
    | cases h
theorem clsN_ok {d : D} {n : String} (h : clsN d = some n) : d = .ty n ∧ n ∈ ["int", "bool", "str", "tuple", "list", "dict"] := by
  unfold clsN at h
  split at h
  · split at h
    · rename_i k
      cases h
      exact ⟨rfl, by simpa [tyKnown] using k⟩
    · cases h
  · cases h
section
variable {K : PySem.W.Frag} {mg : Str → Option Value} {H G : Hp}
theorem tyX_of {d : D} {v : V} {t : String} (sub : SubH G H) (r : RH K mg H G d v) (h : tyN d = some t) : TyX K H v (.type t) := by
  unfold tyN at h
  split at h
  · cases h; cases (show v = .non from r); exact .base .non
  · cases h; cases (show v = .bl _ from r); exact .base (.bl _)
  · cases h; cases (show v = .int _ from r); exact .base (.int _)
  · cases h; cases (show v = .str _ from r); exact .base (.str _)
  · cases h
    obtain ⟨a, xs, ev, q, _⟩ := r
    subst ev
    rcases q with (q | ⟨o, q⟩) | ⟨o, its, n, k1, k2, _⟩
    · exact .base (.tup (sub _ _ q))
    · exact .fTuple (sub _ _ q)
    · exact .kTuple k1 k2
  · cases h
    obtain ⟨a, xs, ev, q, _⟩ := r
    subst ev
    exact .base (.lst q)
  · cases h
    obtain ⟨a, ev, q⟩ := r
    subst ev
    rcases q with (q | ⟨o, q⟩) | ⟨o, its, n, k1, k2, _⟩
    · exact .base (.lst (sub _ _ q))
    · exact .base (.frz (sub _ _ q))
    · exact .kList k1 k2
  · cases h
    obtain ⟨a, xs, ev, q, _⟩ := r
    subst ev
    exact .base (.dK q)
  · cases h
theorem kitAny_ty {t : String} (ht : t ∈ ["NoneType", "bool", "int", "str", "tuple", "list", "dict"]) : ∀ {cs : List D} {ms : List String} {vs : List V} {us : List Value}, clsNs cs = some ms → RVs K mg G cs vs → Vals vs us → PySem.W.kitAny K (.type t) us = some (ms.any fun m => subTy t m)
  | [], ms, vs, us, h, r, q => by
    have h2 : ([] : List String) = ms := Option.some.inj h
    subst h2
    rw [show vs = [] from r] at q
    cases q
    rfl
  | c :: cs, ms, vs, us, h, r, q => by
    unfold clsNs at h
    split at h
    · rename_i n ns h1 h2
      have h3 := Option.some.inj h
      subst h3
      obtain ⟨y, ys, ev, ry, rys⟩ := r
      subst ev
      obtain ⟨ec, hn⟩ := clsN_ok h1
      subst ec
      cases (show y = .ty n from ry)
      cases q with
      | cons q1 q2 =>
        cases q1
        have ih := kitAny_ty ht h2 rys q2
        unfold PySem.W.kitAny
        rw [kit_ty K t ht n hn, List.any_cons]
        cases e : subTy t n with
        | true => rfl
        | false => rw [Bool.false_or]; exact ih
    · cases h
end
section
variable {X : Cx}
theorem call_isiP : CallR X (.builtin "isinstance") (rPn X.K X.mg isiW) := by
  intro pins s σ H xs us Q I r h
  obtain ⟨G, ds, w, sub, rh, e, k⟩ := h
  unfold isiW at e
  split at e
  · rename_i x n
    split at e
    · rename_i t m h1 h2
      have e' := Option.some.inj e
      subst e'
      obtain ⟨en, hm⟩ := clsN_ok h2
      cases en
      obtain ⟨v, v', ev, r1, r2⟩ := rh.two
      subst ev
      cases (show v' = .ty n from r2)
      exact call_isi pins s σ H _ us Q I r ⟨v, .ty n, .type t, .type n, _, rfl, .ty n, tyX_of sub r1 h1, kit_ty X.K t (tyN_mem h1) n hm, k _ H G (Al.here sub rfl)⟩
    · cases e
  · rename_i x cs
    split at e
    · rename_i t ms h1 h2
      have e' := Option.some.inj e
      subst e'
      obtain ⟨v, v', ev, r1, r2⟩ := rh.two
      subst ev
      obtain ⟨a, ys, ev', hq, rys⟩ := r2
      subst ev'
      obtain ⟨u1, u2, rfl, q1, q2⟩ := vals2 r
      cases (show u2 = Value.ref a from q2)
      obtain ⟨P, Z, p, hx⟩ := kit_of I q1 (tyX_of sub r1 h1)
      obtain ⟨its, rv, ⟨⟨cls, dd, data, sl⟩, ho, hc, n, hd⟩, _⟩ := I.tuple (sqT_mono sub hq)
      simp only at hc hd
      subst hc hd
      exact PySem.W.kia_tup Z I.kIn p ho (kitAny_ty (tyN_mem h1) h2 rys rv) hx fun tk => ⟨.bl _, H, I.tok tk, rfl, k _ H G (Al.here sub rfl)⟩
    · cases e
  · cases e
end
end FL
set_option Elab.async false
set_option linter.all false
set_option maxRecDepth 100000
set_option maxHeartbeats 2000000
namespace FL
open PySem PySem.Spec L2
open PyProof.Rows hiding St
def pairs : Nat → List D → List D
  | _, [] => []
  | i, d :: ds => .tup [.int (i : Nat), d] :: pairs (i + 1) ds
def zipped : List D → List D → List D
  | a :: as, b :: bs => .tup [a, b] :: zipped as bs
  | _, _ => []
theorem pairs_get : ∀ {ds : List D} {k i : Nat} {d : D}, ds[i]? = some d → (pairs k ds)[i]? = some (.tup [.int ((k + i : Nat) : Int), d])
  | [], _, _, _, h => by simp at h
  | e :: ds, k, 0, d, h => by
    have e1 : e = d := by simpa using h
    subst e1
    rfl
  | e :: ds, k, i + 1, d, h => by
    have := pairs_get (k := k + 1) (i := i) (ds := ds) (d := d) (by simpa using h)
    have e2 : k + (i + 1) = k + 1 + i := by omega
    rw [e2]
    exact this
theorem pairs_len : ∀ {ds : List D} {k : Nat}, (pairs k ds).length = ds.length
  | [], _ => rfl
  | _ :: ds, k => by
    show (pairs (k + 1) ds).length + 1 = _
    rw [pairs_len (ds := ds)]
    rfl
theorem zipped_get : ∀ {as bs : List D} {i : Nat} {a b : D}, as[i]? = some a → bs[i]? = some b → (zipped as bs)[i]? = some (.tup [a, b])
  | [], _, _, _, _, h, _ => by simp at h
  | _ :: _, [], _, _, _, _, h => by simp at h
  | x :: as, y :: bs, 0, a, b, h1, h2 => by
    have e1 : x = a := by simpa using h1
    have e2 : y = b := by simpa using h2
    subst e1 e2
    rfl
  | x :: as, y :: bs, i + 1, a, b, h1, h2 => zipped_get (as := as) (bs := bs) (i := i) (by simpa using h1) (by simpa using h2)
theorem zipped_len : ∀ {as bs : List D}, (zipped as bs).length = min as.length bs.length
  | [], _ => by simp [zipped]
  | _ :: _, [] => by simp [zipped]
  | x :: as, y :: bs => by
    show (zipped as bs).length + 1 = _
    rw [zipped_len (as := as) (bs := bs), List.length_cons, List.length_cons]
    omega
section
variable {K : PySem.W.Frag} {mg : Str → Option Value} {G : Hp}
theorem alPair {H G : Hp} {T : Addr} {x y : V} {a b : D} (s : SubH G H) (hT : H T = none) (rx : RV K mg G a x) (ry : RV K mg G b y) : Al K mg H G (upd H T (.tup [x, y])) (upd G T (.tup [x, y])) (.ref T) (.d (.tup [a, b])) :=
  Al.tup s hT ⟨x, [y], rfl, rx, y, [], rfl, ry, rfl⟩
theorem WalkD.pair {J : It} {ps : List D} {n : Nat} {Gp : Hp → Prop} {f g : Nat → Option V} {p q : Nat → Option D} (w : Walk J n Gp (YPair f g)) (hn : n = ps.length) (hG : ∀ H, SubH G H → Gp H)
    (hf : ∀ i x, f i = some x → i < n → ∃ d, p i = some d ∧ RV K mg G d x) (hg : ∀ i x, g i = some x → i < n → ∃ d, q i = some d ∧ RV K mg G d x)
    (hp : ∀ i a b, p i = some a → q i = some b → ps[i]? = some (.tup [a, b])) : WalkD K mg J ps G := by
  refine ⟨n, Gp, _, w, hn, hG, fun i H v H' G' s1 s2 hi y => ?_⟩
  obtain ⟨T, x, z, ev, hT, eh, h1, h2⟩ := y
  subst ev eh
  obtain ⟨a, e1, r1⟩ := hf i x h1 hi
  obtain ⟨b, e2, r2⟩ := hg i z h2 hi
  exact ⟨_, _, hp i a b e1 e2, alPair s2 hT (RV.mono s1 _ _ r1) (RV.mono s1 _ _ r2)⟩
theorem WalkD.enum {J : It} {ds : List D} {xs : List V} {Gp : Hp → Prop} (w : Walk J xs.length Gp (YPair (fun i => some (.int (i : Nat))) (fun i => xs[i]?))) (r : RVs K mg G ds xs) (hG : ∀ H, SubH G H → Gp H) : WalkD K mg J (pairs 0 ds) G := by
  have one : ∀ (i : Nat) (x : V), xs[i]? = some x → ∃ d, ds[i]? = some d ∧ RV K mg G d x := fun i x h => by
    have hl : i < ds.length := by rw [r.length]; exact (List.getElem?_eq_some_iff.mp h).1
    obtain ⟨v, h1, h2⟩ := r.get (List.getElem?_eq_getElem hl)
    rw [h] at h1
    cases h1
    exact ⟨_, List.getElem?_eq_getElem hl, h2⟩
  refine WalkD.pair (p := fun i => some (.int (i : Nat))) (q := fun i => ds[i]?) w (by rw [pairs_len, r.length]) hG (fun i x h _ => ?_) (fun i x h _ => one i x h) fun i a b h1 h2 => ?_
  · have e := Option.some.inj h
    subst e
    exact ⟨_, rfl, rfl⟩
  · have e := Option.some.inj h1
    subst e
    have := pairs_get (k := 0) h2
    rw [Nat.zero_add] at this
    exact this
theorem WalkD.zip {J : It} {as bs : List D} {xs ys : List V} {n : Nat} {Gp : Hp → Prop} (w : Walk J n Gp (YPair (fun i => xs[i]?) (fun i => ys[i]?))) (hn : n = min xs.length ys.length) (r : RVs K mg G as xs) (q : RVs K mg G bs ys) (hG : ∀ H, SubH G H → Gp H) : WalkD K mg J (zipped as bs) G := by
  have one : ∀ {ds : List D} {zs : List V}, RVs K mg G ds zs → ∀ (i : Nat) (x : V), zs[i]? = some x → ∃ d, ds[i]? = some d ∧ RV K mg G d x := fun {ds zs} r i x h => by
    have hl : i < ds.length := by rw [r.length]; exact (List.getElem?_eq_some_iff.mp h).1
    obtain ⟨v, h1, h2⟩ := r.get (List.getElem?_eq_getElem hl)
    rw [h] at h1
    cases h1
    exact ⟨_, List.getElem?_eq_getElem hl, h2⟩
  exact WalkD.pair (p := fun i => as[i]?) (q := fun i => bs[i]?) w (by rw [zipped_len, hn, r.length, q.length]) hG (fun i x h _ => one r i x h) (fun i x h _ => one q i x h) fun i a b h1 h2 => zipped_get h1 h2
end
theorem walk_zipTT {K : PySem.W.Frag} {a b : Addr} {xs ys : List V} {n : Nat} (hn : n = min xs.length ys.length) : Walk (RZ.ItzT K a b) n (fun H => SqT K H a xs ∧ SqT K H b ys) (YPair (fun i => xs[i]?) (fun i => ys[i]?)) := by
  subst hn
  refine ⟨fun i H hi q => ?_, fun H q => ⟨xs, ys, q.1, q.2, by omega⟩, fun i H v H' hi q y => ?_⟩
  · have l1 : i < xs.length := by omega
    have l2 : i < ys.length := by omega
    exact ⟨xs, ys, xs[i], ys[i], q.1, q.2, by simp [l1], by simp [l2]⟩
  · obtain ⟨T, x, z, h1, h2, h3, h4, h5⟩ := y
    exact ⟨T, x, z, h1, h2, h3, h4 xs q.1, h5 ys q.2⟩
def seqD : D → Option (List D)
  | .tup ds => some ds
  | .lst ds => some ds
  | .scr ns => some (ns.map .int)
  | _ => none
def enumD : List D → Option (List D)
  | [x] => (seqD x).map (pairs 0)
  | _ => none
def isTup : D → Bool
  | .tup _ => true
  | _ => false
def zipD : List D → Option (List D)
  | [x, y] => match seqD x, seqD y with
    | some as, some bs => if (isTup x == isTup y) = true then some (zipped as bs) else none
    | _, _ => none
  | _ => none
section
variable {K : PySem.W.Frag} {mg : Str → Option Value} {Wx : WG} {σ : St} {ρ : Rho} {H G : Hp}
theorem tL_known {m : M (List D)} {P : List D → Prop} {Q : List V → Hp → Prop} (R : Rel K mg Wx.fl σ ρ H G) (hm : ∃ ds ρ1, m ρ = .ok ds ρ1 ∧ P ds)
    (h : ∀ ds vs ρ1 H1 G1, P ds → Rel K mg Wx.fl σ ρ1 H1 G1 → Fr [] σ ρ H G σ ρ1 H1 G1 → RVs K mg G1 ds vs → m ρ = .ok ds ρ1 → Q vs H1) : tL K mg Wx m σ H Q := by
  refine ⟨ρ, G, R, ?_⟩
  obtain ⟨ds, ρ1, e, p⟩ := hm
  rw [e]
  exact fun v H' G' R' F' r => h ds v ρ1 H' G' p R' F' r e
theorem seqL_of {x : D} {v : V} {ds : List D} (h : seqD x = some ds) (ht : isTup x = false) (r : RV K mg G x v) : ∃ a xs, v = .ref a ∧ SqL K G a xs ∧ RVs K mg G ds xs := by
  cases x with
  | lst es =>
    cases (show some es = some ds from h)
    obtain ⟨a, xs, ev, q, rs⟩ := r
    exact ⟨a, xs, ev, SqL.of q, rs⟩
  | scr ns =>
    cases (show some (ns.map D.int) = some ds from h)
    obtain ⟨a, ev, q⟩ := r
    exact ⟨a, _, ev, q, RVs.of_ints ns⟩
  | tup es => cases ht
  | _ => cases h
theorem seqT_of {x : D} {v : V} {ds : List D} (h : seqD x = some ds) (ht : isTup x = true) (r : RV K mg G x v) : ∃ a xs, v = .ref a ∧ SqT K G a xs ∧ RVs K mg G ds xs := by
  cases x with
  | tup es =>
    cases (show some es = some ds from h)
    obtain ⟨a, xs, ev, q, rs⟩ := r
    exact ⟨a, xs, ev, q, rs⟩
  | _ => cases ht
end
section
variable {X : Cx} {Wx : WG} {a b : Expr} {p pos tpos : Pos} {elts : List Expr} {kk : Nat} {ms : M (List D)}
theorem pmi_enum (hg : Gl X "enumerate") (hm : X.mg "enumerate" = none) (ha : PML X Wx [a] ms) (hs : starEach [a] X.env = [(false, eval a X.env)]) : PMI X Wx (.Tuple elts kk tpos) (.Call (.Name "enumerate" p) [a] [] pos) (iterL enumD ms) := by
  refine piImp (piOr (pi_enum hg hm ha hs) (pi_enumT hg hm ha hs)) fun σ H Rk h => ?_
  obtain ⟨ρ, G, R, h⟩ := h
  unfold iterL at h
  cases em : ms ρ with
  | bad => rw [em] at h; exact h.elim
  | exc c fs ρ1 => rw [em] at h; exact .inl ⟨ρ, G, R, by rw [em]; exact h⟩
  | ok ds ρ1 =>
    rw [em] at h
    have h1 : GoI X.K X.mg Wx σ ρ H G (liftM (enumD ds) ρ1) Rk := h
    unfold liftM at h1
    split at h1
    · rename_i items ei
      unfold enumD at ei
      split at ei
      · rename_i x
        obtain ⟨zs, h2, h3⟩ := Option.map_eq_some_iff.mp ei
        subst h3
        have fin : ∀ (J : It) (ρ2 : Rho) (H1 G1 : Hp), ms ρ = .ok [x] ρ2 → Rel X.K X.mg Wx.fl σ ρ2 H1 G1 → Fr [] σ ρ H G σ ρ2 H1 G1 → WalkD X.K X.mg J (pairs 0 zs) G1 → Rk J H1 := fun J ρ2 H1 G1 e' R1 F1 Wd => by
          rw [em] at e'
          cases e'
          exact h1 J H1 G1 R1 F1 Wd
        cases ht : isTup x with
        | true =>
          refine .inr (tL_known (P := fun ds => ds = [x]) R ⟨_, ρ1, em, rfl⟩ fun ds vs ρ2 H1 G1 pe R1 F1 rv e' => ?_)
          subst pe
          obtain ⟨y, ys, ev, ry, ey⟩ := rv
          cases (show ys = [] from ey)
          obtain ⟨q, xs, ea, sq, rs⟩ := seqT_of h2 ht ry
          exact ⟨q, xs, by rw [ev, ea], sqT_mono R1.sub sq, fin _ ρ2 H1 G1 e' R1 F1 (WalkD.enum walk_enumT rs fun H s => sqT_mono s sq)⟩
        | false =>
          refine .inl (tL_known (P := fun ds => ds = [x]) R ⟨_, ρ1, em, rfl⟩ fun ds vs ρ2 H1 G1 pe R1 F1 rv e' => ?_)
          subst pe
          obtain ⟨y, ys, ev, ry, ey⟩ := rv
          cases (show ys = [] from ey)
          obtain ⟨q, xs, ea, sq, rs⟩ := seqL_of h2 ht ry
          exact ⟨q, xs, by rw [ev, ea], sqL_mono R1.sub sq, fin _ ρ2 H1 G1 e' R1 F1 (WalkD.enum walk_enum rs fun H s => sqL_mono s sq)⟩
      · cases ei
    · exact h1.elim
theorem pmi_zip (hg : Gl X "zip") (hm : X.mg "zip" = none) (ha : PML X Wx [a, b] ms) (hs : starEach [a, b] X.env = (false, eval a X.env) :: starEach [b] X.env) (hpl : (backTo pos (starEach [b] X.env)).any (·.1) = false) :
    PMI X Wx (.Tuple elts kk tpos) (.Call (.Name "zip" p) [a, b] [] pos) (iterL zipD ms) := by
  refine piImp (RZ.pi_zipA hg hm ha hs hpl) fun σ H Rk h => ?_
  obtain ⟨ρ, G, R, h⟩ := h
  refine tL_mono (tL_bindI R h) fun vs H1 ⟨ds, ρ1, G1, R1, rv, F1, k⟩ => ?_
  unfold liftM at k
  split at k
  · rename_i items ei
    unfold zipD at ei
    split at ei
    · rename_i x y
      split at ei
      · rename_i as bs h1 h2
        split at ei
        · rename_i hb
          have e' := Option.some.inj ei
          subst e'
          obtain ⟨u, us, ev, ru, w, ws, ev2, rw', ews⟩ := rv
          cases (show ws = [] from ews)
          subst ev2
          have hb' : isTup x = isTup y := by simpa using hb
          cases ht : isTup x with
          | true =>
            obtain ⟨q, xs, ea, sq, rs⟩ := seqT_of h1 ht ru
            obtain ⟨q2, ys, ea2, sq2, rs2⟩ := seqT_of h2 (hb' ▸ ht) rw'
            exact ⟨q, q2, xs, ys, by rw [ev, ea, ea2], .inr ⟨sqT_mono R1.sub sq, sqT_mono R1.sub sq2, k _ H1 G1 R1 Fr.refl (WalkD.zip (walk_zipTT rfl) rfl rs rs2 fun H s => ⟨sqT_mono s sq, sqT_mono s sq2⟩)⟩⟩
          | false =>
            obtain ⟨q, xs, ea, sq, rs⟩ := seqL_of h1 ht ru
            obtain ⟨q2, ys, ea2, sq2, rs2⟩ := seqL_of h2 (hb' ▸ ht) rw'
            exact ⟨q, q2, xs, ys, by rw [ev, ea, ea2], .inl ⟨sqL_mono R1.sub sq, sqL_mono R1.sub sq2, k _ H1 G1 R1 Fr.refl (WalkD.zip (walk_zip rfl) rfl rs rs2 fun H s => ⟨sqL_mono s sq, sqL_mono s sq2⟩)⟩⟩
        · cases ei
      · cases ei
    · cases ei
  · exact k.elim
end
def stepW (lo hi st : Option Int) : D → Option W
  | .tup ds => match st with
    | some k => if (decide (k ≠ 0) && decide (k ≠ 1) && sizeOk (stepBy ds lo hi k).length) = true then some (.d (.tup (stepBy ds lo hi k))) else none
    | none => none
  | .lst ds => match st with
    | some k => if decide (k ≠ 0) = true then some (.own (.lst (pickL ds lo hi (some k)))) else none
    | none => none
  | _ => none
def slSM (ma : M A) (ml mh mk : M (Option Int)) : M W := fun ρ => (ma ρ).bind fun x ρ => (ml ρ).bind fun lo ρ => (mh ρ).bind fun hi ρ => (mk ρ).bind fun st ρ => op1 (stepW lo hi st) x ρ
section
variable {X : Cx} {Wx : WG} {a st : Expr} {ma : M A} {pos p2 : Pos} {lo hi : Option Expr} {ml mh mk : M (Option Int)}
theorem pm_slS (ha : PMA X Wx a ma) (hl : PMO X Wx lo ml) (hh : PMO X Wx hi mh) (hk : PMO X Wx (some st) mk) : PM X Wx (.Subscript a (.Slice lo hi (some st) p2) pos) (slSM ma ml mh mk) := by
  refine peImp (pe_sliceS ha hl hh hk) fun σ H Q h => ?_
  obtain ⟨ρ, G, R, h⟩ := h
  refine tA_mono (tA_bind R h) fun v H1 ⟨x, ρ1, G1, R1, rv, F1, k⟩ => ?_
  refine tO2_mono (tO2_bind R1 k) fun l H2 ⟨ρ2, G2, R2, F2, k2⟩ => ?_
  refine tO2_mono (tO2_bind R2 k2) fun u H3 ⟨ρ3, G3, R3, F3, k3⟩ => ?_
  refine tO2_mono (tO2_bind R3 k3) fun z H4 ⟨ρ4, G4, R4, F4, k4⟩ => ?_
  obtain ⟨G5, d, w, sub, rh, e, kk⟩ := op1_go R4 (rv.mono ((F2.grow.trans F3.grow).trans F4.grow)) k4
  unfold stepW at e
  split at e
  · rename_i ds
    cases z with
    | none => cases e
    | some c =>
      dsimp only at e
      split at e
      · rename_i hs
        have e' := Option.some.inj e
        subst e'
        rw [Bool.and_eq_true, Bool.and_eq_true] at hs
        obtain ⟨⟨h0, h1⟩, h2⟩ := hs
        obtain ⟨p, xs, ev, hq, rs⟩ := rh
        have rst := stepBy_rel (lo := l) (hi := u) (st := c) rs
        exact .inl ⟨p, xs, c, ev, sqT_mono sub hq, rfl, of_decide_eq_true h0, of_decide_eq_true h1, by rw [← rst.length]; exact sizeOk_le h2, fun q hq => kk _ _ _ (Al.tup sub hq rst)⟩
      · cases e
  · rename_i ds
    cases z with
    | none => cases e
    | some c =>
      dsimp only at e
      split at e
      · rename_i h0
        have e' := Option.some.inj e
        subst e'
        obtain ⟨p, xs, ev, hq, rs⟩ := rh
        exact .inr ⟨p, xs, c, ev, SqL.of hq, rfl, of_decide_eq_true h0, fun q hq => kk _ _ _ (Al.lst sub hq (pickL_rel rs))⟩
      · cases e
  · cases e
end
end FL
set_option Elab.async false
set_option linter.all false
set_option maxRecDepth 100000
set_option maxHeartbeats 2000000
namespace FL
open PySem PySem.Spec L2
open PyProof.Rows hiding St
section
variable {K : PySem.W.Frag} {mg : Str → Option Value} {Wx : WG} {σ : St} {ρ : Rho} {H G : Hp}
/-- a slot's own object changes -/
theorem Rel.change {i : Nat} {x y : D} {a : Addr} {o : HO} (R : Rel K mg fl σ ρ H G) (e : ρ[i]? = some (some (.own x))) (s : σ[i]? = some (some (.ref a))) (ro : RO K mg (upd H a o) G a y) :
    Rel K mg fl σ (ρ.set i (some (.own y))) (upd H a o) G ∧ Fr [] σ ρ H G σ (ρ.set i (some (.own y))) (upd H a o) G := by
  obtain ⟨v, s', a', ev, ga, ro0⟩ := R.slot i _ e
  rw [s] at s'
  cases s'
  cases ev
  have hi : i < ρ.length := (List.getElem?_eq_some_iff.mp e).1
  have at_ : ∀ (j : Nat) (w : W), (ρ.set i (some (.own y)))[j]? = some (some w) → (j = i ∧ w = .own y) ∨ (j ≠ i ∧ ρ[j]? = some (some w)) := fun j w h => by
    by_cases hj : j = i
    · subst hj
      rw [List.getElem?_set_self hi] at h
      cases h
      exact .inl ⟨rfl, rfl⟩
    · rw [List.getElem?_set_ne (Ne.symm hj)] at h
      exact .inr ⟨hj, h⟩
  have was : ∀ (j : Nat) (z : D), (ρ.set i (some (.own y)))[j]? = some (some (.own z)) → ∃ z', ρ[j]? = some (some (.own z')) := fun j z h => by
    rcases at_ j _ h with ⟨rfl, _⟩ | ⟨_, h'⟩
    · exact ⟨x, e⟩
    · exact ⟨z, h'⟩
  refine ⟨⟨by rw [List.length_set]; exact R.len, fun b u hb => ?_, fun j w hw => ?_, fun j k u z v h1 h2 h3 h4 => ?_, R.floor, tabs_upd (fun u e => by obtain ⟨o, ho, _, hld⟩ := ro0.there; rw [ho] at e; cases e; exact hld) R.tabs, R.ntb⟩, ⟨SubH.refl, fun b u hb _ hg hn => ⟨?_, hg, fun ⟨j, z, h1, h2⟩ => ?_⟩, fun _ h => absurd h (by simp), rfl⟩⟩
  · rw [upd_ne (fun z => by rw [z, ga] at hb; cases hb)]
    exact R.sub b u hb
  · rcases at_ j w hw with ⟨rfl, rfl⟩ | ⟨hj, hw'⟩
    · exact ⟨_, s, a, rfl, ga, ro⟩
    · obtain ⟨v, sj, q⟩ := R.slot j w hw'
      refine ⟨v, sj, q.mono SubH.refl fun z b e1 e2 => ?_⟩
      subst e1 e2
      have hne : b ≠ a := fun z' => hj (R.dis j i z x _ hw' e sj (by rw [s, z']))
      obtain ⟨b', eb, gb, _⟩ := q
      cases eb
      exact ⟨upd_ne hne, gb⟩
  · obtain ⟨u', h1'⟩ := was j u h1
    obtain ⟨z', h2'⟩ := was k z h2
    exact R.dis j k u' z' v h1' h2' h3 h4
  · rw [upd_ne (fun z => hn ⟨i, x, e, by rw [s, z]⟩)]
    exact hb
  · obtain ⟨z', h1'⟩ := was j z h1
    exact hn ⟨j, z', h1', h2⟩
end
def putD (kvs : List (Key × D)) (k : Key) (d : D) : List (Key × D) :=
  if (kvs.any fun p => decide (p.1 = k)) = true then kvs.map (fun p => if p.1 = k then (p.1, d) else p) else kvs ++ [(k, d)]
def setW : D → D → D → Option D
  | .lst ds, .int i, v => (ixN ds.length i).map fun j => .lst (ds.set j v)
  | .dct kvs, y, v => match keyD y with
    | some k => if decide (kvs.length < 16777216) = true then some (.dct (putD kvs k v)) else none
    | none => none
  | _, _, _ => none
section
variable {K : PySem.W.Frag} {mg : Str → Option Value} {G : Hp} {k : Key} {d : D} {v : V}
theorem RKs.any : ∀ {kvs : List (Key × D)} {vs : List (Key × V)}, RKs K mg G kvs vs → (kvs.any fun p => decide (p.1 = k)) = vs.any fun p => decide (p.1 = k)
  | [], vs, r => by cases (show vs = [] from r); rfl
  | (k', d') :: kvs, vs, ⟨y, ys, e, r, t⟩ => by
    subst e
    rw [List.any_cons, List.any_cons, RKs.any t]
theorem RKs.putAll (rv : RV K mg G d v) : ∀ {kvs : List (Key × D)} {vs : List (Key × V)}, RKs K mg G kvs vs → RKs K mg G (kvs.map fun p => if p.1 = k then (p.1, d) else p) (vs.map fun p => if p.1 = k then (p.1, v) else p)
  | [], vs, r => by cases (show vs = [] from r); rfl
  | (k', d') :: kvs, vs, ⟨y, ys, e, r, t⟩ => by
    subst e
    have ih := RKs.putAll rv t
    rw [List.map_cons, List.map_cons]
    by_cases h : k' = k
    · rw [if_pos h, if_pos h]
      exact ⟨v, _, rfl, rv, ih⟩
    · rw [if_neg h, if_neg h]
      exact ⟨y, _, rfl, r, ih⟩
theorem RKs.snoc (rv : RV K mg G d v) : ∀ {kvs : List (Key × D)} {vs : List (Key × V)}, RKs K mg G kvs vs → RKs K mg G (kvs ++ [(k, d)]) (vs ++ [(k, v)])
  | [], vs, r => by cases (show vs = [] from r); exact ⟨v, [], rfl, rv, rfl⟩
  | (k', d') :: kvs, vs, ⟨y, ys, e, r, t⟩ => by
    subst e
    exact ⟨y, _, rfl, r, RKs.snoc rv t⟩
theorem putD_rel (rv : RV K mg G d v) {kvs : List (Key × D)} {vs : List (Key × V)} (r : RKs K mg G kvs vs) : RKs K mg G (putD kvs k d) (putK vs k v) := by
  unfold putD putK
  rw [r.any]
  split
  · exact RKs.putAll rv r
  · exact RKs.snoc rv r
end
/-- slot i's own object takes a value at an index -/
def setSubM (i : Nat) (mv : M W) (mi : M A) : M Fl := fun ρ => (mv ρ).dat fun x ρ => match ρ[i]? with
  | some (some (.own _)) => (mi ρ).bind fun a ρ => match ρ[i]?, a.res ρ with
    | some (some (.own c)), some k => match setW c k x with
      | some c' => .ok .nx (ρ.set i (some (.own c')))
      | none => .bad
    | _, _ => .bad
  | _ => .bad
/-- o[i] = v by values: a list or a dict -/
def rSetA : TSet := fun o i v H Q => rSetL o i v H Q ∨ rSetD o i v H Q
theorem set_any {X : Cx} (hu : X.A.units + 1 < cLine) : PSet X rSetA := by
  intro pins s σ H o i v ov iv u Q I ro ri rv h
  rcases h with h | h
  · exact set_list pins s σ H o i v ov iv u Q I ro ri rv h
  · exact set_dict hu pins s σ H o i v ov iv u Q I ro ri rv h
theorem set_go {K : PySem.W.Frag} {mg : Str → Option Value} {σ : St} {ρ : Rho} {H G : Hp} {i : Nat} {c c' k x : D} {a : Addr} {y v : V} {Q : Hp → Prop} (R : Rel K mg fl σ ρ H G) (e : ρ[i]? = some (some (.own c))) (s : σ[i]? = some (some (.ref a))) (ry : RH K mg H G k y) (rv : RV K mg G x v)
    (hs : setW c k x = some c') (q : ∀ H', Rel K mg fl σ (ρ.set i (some (.own c'))) H' G → Fr [] σ ρ H G σ (ρ.set i (some (.own c'))) H' G → Q H') : rSetA (.ref a) y v H Q := by
  obtain ⟨_, s', a', ev, ga, ro⟩ := R.slot i _ e
  rw [s] at s'
  cases s'
  cases ev
  unfold setW at hs
  split at hs
  · rename_i ds j
    obtain ⟨n, hn, ec⟩ := Option.map_eq_some_iff.mp hs
    subst ec
    cases (show y = .int j from ry)
    obtain ⟨xs, hx, rx⟩ := ro
    obtain ⟨R', F'⟩ := R.change (y := .lst (ds.set n x)) (o := .lst (xs.set n v)) e s ⟨_, upd_same, rx.set rv n⟩
    exact .inl ⟨a, xs, j, n, rfl, rfl, hx, by rw [← rx.length]; exact hn, q _ R' F'⟩
  · rename_i kvs
    split at hs
    · rename_i kk hk
      split at hs
      · rename_i hl
        have ec := Option.some.inj hs
        subst ec
        obtain ⟨ks, hx, rx⟩ := ro
        have ey := keyD_ok hk ry
        subst ey
        obtain ⟨R', F'⟩ := R.change (y := .dct (putD kvs kk x)) (o := .dK (putK ks kk v)) e s ⟨_, upd_same, putD_rel rv rx⟩
        exact .inr ⟨a, _, rfl, DPut.k hx (by rw [sizeLine_eq, ← rx.length]; exact of_decide_eq_true hl), q _ R' F'⟩
      · cases hs
    · cases hs
  · cases hs
def noSlice : Expr → Bool
  | .Slice .. => false
  | _ => true
section
variable {X : Cx} {Wx : WG} {io : List Nat} {e ix : Expr} {pos p p' : Pos} {x : Str} {i : Nat} {mv : M W} {mi : M A}
theorem pms_setSub (hu : X.A.units + 1 < cLine) (hN : X.N[i]? = some x) (hv : Vis X.env.scope x) (hd : (x == ("__debug__" : Str)) = false) (hcd : (x == ("__classdict__" : Str)) = false) (he : PM X Wx e mv) (hi : PMA X Wx ix mi) (hns : noSlice ix = true) :
    PMS X Wx io (.Assign [.Subscript (.Name x p) ix p'] e pos) (setSubM i mv mi) := by
  have h1 : swapsWithSole [.Subscript (.Name x p) ix p'] e pos.line X.env = pure false := by cases e <;> rfl
  have h2 : swappedStores [.Subscript (.Name x p) ix p'] e X.env = pure none := by cases e <;> rfl
  have h3 : ∀ v, assign (.Subscript (.Name x p) ix p') X.env v = (do
      let ov ← holding [v] (eval (.Name x p) X.env)
      let iv ← holding [v, ov] (eval ix X.env)
      standAt p'
      holding [v, ov, iv] (setItem ov iv v)
      release [v, ov, iv] []) := by
    intro v
    cases ix <;> first
      | rfl
      | cases hns
  refine psImp (ps_asg he (pg_sub (pe_var hN hv hd hcd) hi (set_any hu) h3) h1 h2 rfl) fun D σ H h => ?_
  obtain ⟨ρ, G, R, h⟩ := h
  refine tM_mono (tM_datS (io := io) R h) fun v H1 ⟨d, ρ1, G1, R1, rv, F1, k⟩ => ?_
  split at k
  · rename_i c0 e0
    obtain ⟨ov, s0, a, ea, _⟩ := R1.slot i _ e0
    subst ea
    refine ⟨_, s0, ?_⟩
    refine tA_mono (tA_bindS (io := io) R1 k) fun y H2 ⟨ia, ρ2, G2, R2, ry, F2, k2⟩ => ?_
    split at k2
    · rename_i c kk e1 e2
      split at k2
      · rename_i c' hs
        have F12 : Fr io σ ρ1 H1 G1 σ ρ2 H2 G2 := F2
        exact set_go R2 e1 s0 (ry.read R2 e2) (RV.mono F2.grow _ _ rv) hs fun H' R' F' => k2 σ H' G2 R' F'.io_nil
      · exact k2.elim
    · exact k2.elim
  · exact k.elim
end
end FL
set_option Elab.async false
set_option linter.all false
set_option maxRecDepth 100000
set_option maxHeartbeats 2000000
namespace FL
open PySem PySem.Spec L2
open PyProof.Rows hiding St
def appM (i : Nat) (m : M W) : M W := fun ρ => match ρ[i]? with
  | some (some (.own (.lst _))) => (m ρ).dat fun x ρ => match ρ[i]? with
    | some (some (.own (.lst xs))) => if sizeOk (xs.length + 1) = true then .ok (.d .non) (ρ.set i (some (.own (.lst (xs ++ [x]))))) else .bad
    | _ => .bad
  | _ => .bad
def popM (i : Nat) : M W := fun ρ => match ρ[i]? with
  | some (some (.own (.lst xs))) => match xs[xs.length - 1]? with
    | some d => .ok (.d d) (ρ.set i (some (.own (.lst xs.dropLast))))
    | none => .bad
  | _ => .bad
def bitsW : D → Option W
  | .int i => some (.d (.int (Builtin.Int.intBits i : Nat)))
  | _ => none
def bitsM (ma : M A) : M W := fun ρ => (ma ρ).bind fun x ρ => op1 bitsW x ρ
section
variable {X : Cx} {Wx : WG} {e : Expr} {pos p apos : Pos} {x : Str} {i : Nat} {m : M W} {ma : M A}
theorem pm_append (hN : X.N[i]? = some x) (hv : Vis X.env.scope x) (hd : (x == ("__debug__" : Str)) = false) (hcd : (x == ("__classdict__" : Str)) = false) (he : PM X Wx e m) (hs : starEach [e] X.env = [(false, eval e X.env)]) (hline : (apos.endLine == pos.line) = true) :
    PM X Wx (.Call (.Attribute (.Name x p) "append" apos) [e] [] pos) (appM i m) := by
  refine peImp (pe_bm PySem.F.plainAttrs_list PySem.F.slot_list_append PySem.F.type_list_append mt_append (pe_var hN hv hd hcd) (pa_cons he pa_nil hs) rfl (by rw [hs]; rfl) hline hs rfl) fun σ H Q h => ?_
  obtain ⟨ρ, G, R, h⟩ := h
  unfold appM at h
  split at h
  · rename_i c0 e0
    obtain ⟨ov, s0, a, ea, ga, xs0, hx0, rx0⟩ := R.slot i _ e0
    subst ea
    refine ⟨_, s0, .inl ⟨rfl, xs0, SqL.of hx0⟩, ?_⟩
    refine tM_mono (tM_dat R h) fun v H1 ⟨d, ρ1, G1, R1, rv, F1, k⟩ => ?_
    split at k
    · rename_i ds e1
      split at k
      · rename_i hz
        obtain ⟨_, s', a', ea, _, xs, hx, rx⟩ := R1.slot i _ e1
        rw [s0] at s'
        cases s'
        cases ea
        obtain ⟨R', F'⟩ := R1.change (y := .lst (ds ++ [d])) (o := .lst (xs ++ [v])) e1 s0 ⟨_, upd_same, rx.append (RVs.one rv)⟩
        exact ⟨a, xs, v, rfl, rfl, hx, by rw [← rx.length]; exact Nat.lt_of_succ_le (sizeOk_le hz), k _ _ _ R' F' ⟨rfl, fun _ _ z => nomatch z⟩⟩
      · exact k.elim
    · exact k.elim
  · exact h.elim
theorem pm_pop (hN : X.N[i]? = some x) (hv : Vis X.env.scope x) (hd : (x == ("__debug__" : Str)) = false) (hcd : (x == ("__classdict__" : Str)) = false) (hline : (apos.endLine == pos.line) = true) :
    PM X Wx (.Call (.Attribute (.Name x p) "pop" apos) [] [] pos) (popM i) := by
  refine peImp (pe_bm0 PySem.F.plainAttrs_list PySem.F.slot_list_pop PySem.F.type_list_pop mt_pop (pe_var hN hv hd hcd) rfl hline) fun σ H Q h => ?_
  obtain ⟨ρ, G, R, h⟩ := h
  unfold popM at h
  split at h
  · rename_i ds e0
    split at h
    · rename_i d ed
      obtain ⟨ov, s0, a, ea, ga, xs, hx, rx⟩ := R.slot i _ e0
      subst ea
      obtain ⟨v, hv2, rv⟩ := rx.get ed
      have l := rx.length
      have rd : RVs X.K X.mg G ds.dropLast xs.dropLast := by
        rw [List.dropLast_eq_take, List.dropLast_eq_take, ← l]
        exact rx.take _
      obtain ⟨R', F'⟩ := R.change (y := .lst ds.dropLast) (o := .lst xs.dropLast) e0 s0 ⟨_, upd_same, rd⟩
      exact ⟨_, s0, .inl ⟨rfl, xs, SqL.of hx⟩, a, xs, v, rfl, rfl, hx, by rw [← l]; exact hv2, h v _ _ R' F' ⟨rv, fun _ _ z => nomatch z⟩⟩
    · exact h.elim
  · exact h.elim
theorem pm_bits (ha : PMA X Wx e ma) (hb : attributeBase e "bit_length" X.env (eval e X.env) = eval e X.env) (hline : (apos.endLine == pos.line) = true) : PM X Wx (.Call (.Attribute e "bit_length" apos) [] [] pos) (bitsM ma) := by
  refine peImp (pe_bits ha hb hline) fun σ H Q h => ?_
  obtain ⟨ρ, G, R, h⟩ := h
  refine tA_mono (tA_bind R h) fun v H1 ⟨a, ρ1, G1, R1, rv, F1, k⟩ => ?_
  obtain ⟨G5, d, w, sub, rh, e', kk⟩ := op1_go R1 rv k
  unfold bitsW at e'
  split at e'
  · have e2 := Option.some.inj e'
    subst e2
    exact ⟨_, rh, kk _ H1 G5 (Al.here sub rfl)⟩
  · cases e'
end
def parM (io : List Nat) (i j : Nat) (m1 m2 : M W) : M Fl := fun ρ => (m1 ρ).bind fun w1 ρ => (m2 ρ).bind fun w2 ρ =>
  if (io.contains i || io.contains j) = true then .bad else .ok .nx ((ρ.set i (some w1)).set j (some w2))
section
variable {X : Cx} {Wx : WG} {io : List Nat} {a b : Expr} {pos px py pt pt2 : Pos} {x y : Str} {i j kt k2 : Nat} {m1 m2 : M W}
theorem pms_par (hc : X.calm = true) (hN : X.N.Nodup) (hi : X.N[i]? = some x) (hj : X.N[j]? = some y) (hij : i ≠ j) (hx : X.env.scope.names.lookup x = some .local) (hy : X.env.scope.names.lookup y = some .local)
    (ha : PM X Wx a m1) (hb : PM X Wx b m2) (hs : starEach [a, b] X.env = (false, eval a X.env) :: starEach [b] X.env) (hs2 : starEach [b] X.env = [(false, eval b X.env)])
    (hw : swappedStores [.Tuple [.Name x px, .Name y py] kt pt] (.Tuple [a, b] k2 pt2) X.env = pure (some [x, y])) :
    PMS X Wx io (.Assign [.Tuple [.Name x px, .Name y py] kt pt] (.Tuple [a, b] k2 pt2) pos) (parM io i j m1 m2) := by
  refine psImp (ps_par hc hN hi hj hij hx hy (pa_cons ha (pa_cons hb pa_nil hs2) hs) hw rfl) fun D σ H h => ?_
  obtain ⟨ρ, G, R, h⟩ := h
  refine tM_mono (tM_bindS (io := io) R h) fun v1 H1 ⟨w1, ρ1, G1, R1, F1, r1, k⟩ => ?_
  -- told from the first value's state
  cases e2 : m2 ρ1 with
  | bad => rw [e2] at k; exact k.elim
  | exc c fs ρ2 =>
    rw [e2] at k
    refine ⟨ρ1, G1, R1, ?_⟩
    rw [e2]
    exact fun cls od H' G' R' F' rx => k cls od σ H' G' R' (F1.trans F'.io_nil) rx
  | ok w2 ρ2 =>
    rw [e2] at k
    refine ⟨ρ1, G1, R1, ?_⟩
    rw [e2]
    intro v2 H2 G2 R2 F2 r2
    have k' : GoS X.K X.mg Wx io σ ρ H G (if (io.contains i || io.contains j) = true then .bad else .ok .nx ((ρ2.set i (some w1)).set j (some w2))) D := k
    split at k'
    · exact k'.elim
    · rename_i hio
      have hio' : (io.contains i || io.contains j) = false := by simpa using hio
      rw [Bool.or_eq_false_iff] at hio'
      have ni : i ∉ io := fun z => by have := hio'.1; rw [show io.contains i = true by simpa using z] at this; cases this
      have nj : j ∉ io := fun z => by have := hio'.2; rw [show io.contains j = true by simpa using z] at this; cases this
      have F12 : Fr io σ ρ H G σ ρ2 H2 G2 := F1.trans F2.io_nil
      -- the first value's own object is kept by the second part
      have own1 : ∀ z p, w1 = .own z → v1 = .ref p → ∃ o, H1 p = some o ∧ H2 p = some o ∧ G2 p = none ∧ ¬ OwnS σ ρ2 p ∧ ¬ OwnS σ ρ1 p ∧ KP o := fun z p ew ev => by
        subst ew
        obtain ⟨p', ep, gp, ro⟩ := r1.1
        rw [ev] at ep
        cases ep
        obtain ⟨o, ho, _, hld⟩ := ro.there
        obtain ⟨n1, _⟩ := r1.2 z p rfl ev
        obtain ⟨h1, h2, h3⟩ := F2.keep p o ho hld.kp gp n1
        exact ⟨o, ho, h1, h2, h3, n1, hld.kp⟩
      have rw1 : RW X.K X.mg H2 G2 v1 w1 := r1.1.mono F2.grow fun z p ew ev => by
        obtain ⟨o, h1, h2, h3, _⟩ := own1 z p ew ev
        exact ⟨h2.trans h1.symm, h3⟩
      obtain ⟨R3, F3⟩ := R2.store F12 rw1 (fun z p ew ev => ⟨(own1 z p ew ev).choose_spec.2.2.2.1, fun o ho => (r1.2 z p ew ev).2 o ho⟩) ni
      have rb := RR.back F1 F2.grow r2
      have apart : ∀ z p, w2 = .own z → v2 = .ref p → ¬ OwnS (σ.set i (some v1)) (ρ2.set i (some w1)) p := fun z p ew ev ⟨q, u, z1, z2⟩ => by
        by_cases hq : q = i
        · subst hq
          have hl : q < ρ2.length := by
            have := (List.getElem?_eq_some_iff.mp z1).1
            rwa [List.length_set] at this
          rw [List.getElem?_set_self hl] at z1
          rw [List.getElem?_set_self (by rw [← R2.len]; exact hl)] at z2
          have ew1 : w1 = .own u := by simpa using z1
          have ev1 : v1 = .ref p := by simpa using z2
          obtain ⟨o, h1, _, _, _, n1, nt⟩ := own1 u p ew1 ev1
          exact n1 ((r2.2 z p ew ev).2 o h1 nt)
        · rw [List.getElem?_set_ne (Ne.symm hq)] at z1
          rw [List.getElem?_set_ne (Ne.symm hq)] at z2
          exact (r2.2 z p ew ev).1 ⟨q, u, z1, z2⟩
      obtain ⟨R4, F4⟩ := R3.store F3 r2.1 (fun z p ew ev => ⟨apart z p ew ev, fun o ho => (rb.2 z p ew ev).2 o ho⟩) nj
      exact ⟨v1, v2, rfl, k' _ H2 G2 R4 F4⟩
end
theorem pm_glob {X : Cx} {Wx : WG} {x : Str} {pos : Pos} {d : D} {v : V} {u : Value} (hg : Gl X x) (hm : X.mg x = some u) (rv : RelV v u) (r : RV X.K X.mg (fun _ => none) d v) (hd : (x == ("__debug__" : Str)) = false) : PM X Wx (.Name x pos) (constM d) :=
  pm_const (pe_glob hg hm rv hd) r
theorem pm_bltn {X : Cx} {Wx : WG} {x : Str} {pos : Pos} {n : String} (hg : Gl X x) (hm : X.mg x = none) (hv : bootBuiltins x = some (.type n)) (hn : x ≠ "__name__") (hd : (x == ("__debug__" : Str)) = false) : PM X Wx (.Name x pos) (constM (.ty n)) :=
  pm_const (pe_bltn (v := .ty n) hg hm hv rfl hn hd) rfl
end FL
set_option Elab.async false
set_option linter.all false
set_option maxRecDepth 100000
set_option maxHeartbeats 2000000
namespace FL
open PySem PySem.Spec L2
open PyProof.Rows hiding St
section
variable {K : PySem.W.Frag} {mg : Str → Option Value} {Wx : WG} {σ : St} {ρ ρ1 : Rho} {H H1 G G1 : Hp}
/-- an object that nobody here holds is written -/
theorem Rel.aside {p : Addr} {o : HO} (R : Rel K mg fl σ ρ H G) (gp : G p = none) (np : ¬ OwnS σ ρ p) (ld : ∀ u, H p = some u → LD u) : Rel K mg fl σ ρ (upd H p o) G := by
  refine ⟨R.len, fun b u hb => ?_, fun i w hw => ?_, R.dis, R.floor, tabs_upd ld R.tabs, R.ntb⟩
  · rw [upd_ne (fun z => by rw [z, gp] at hb; cases hb)]
    exact R.sub b u hb
  · obtain ⟨v, s, q⟩ := R.slot i w hw
    refine ⟨v, s, q.mono SubH.refl fun x a e1 e2 => ?_⟩
    subst e1 e2
    obtain ⟨a', ea, ga, ro⟩ := q
    cases ea
    exact ⟨upd_ne fun z => np ⟨i, x, hw, by rw [s, z]⟩, ga⟩
theorem Fr.aside {p : Addr} {o o' : HO} (hp : H p = none) (F : Fr [] σ ρ (upd H p o) G σ ρ1 H1 G1) : Fr [] σ ρ H G σ ρ1 (upd H1 p o') G1 := by
  refine ⟨F.grow, fun b u hb nt hg hn => ?_, F.fix, F.len⟩
  have hne : b ≠ p := fun z => by rw [z, hp] at hb; cases hb
  obtain ⟨k1, k2, k3⟩ := F.keep b u (by rw [upd_ne hne]; exact hb) nt hg hn
  exact ⟨by rw [upd_ne hne]; exact k1, k2, k3⟩
theorem Fr.aside0 {p : Addr} {o : HO} (hp : H p = none) (F : Fr [] σ ρ (upd H p o) G σ ρ1 H1 G1) : Fr [] σ ρ H G σ ρ1 H1 G1 := by
  refine ⟨F.grow, fun b u hb nt hg hn => F.keep b u ?_ nt hg hn, F.fix, F.len⟩
  rw [upd_ne (fun z => by rw [z, hp] at hb; cases hb)]
  exact hb
theorem Rel.noG {p : Addr} (R : Rel K mg fl σ ρ H G) (hp : H p = none) : G p = none ∧ ¬ OwnS σ ρ p := by
  refine ⟨?_, fun ⟨i, x, h1, h2⟩ => ?_⟩
  · cases e : G p with
    | none => rfl
    | some o => have := R.sub _ _ e; rw [hp] at this; cases this
  · obtain ⟨v, s, a, ev, _, ro⟩ := R.slot i _ h1
    rw [h2] at s
    cases s
    cases ev
    obtain ⟨o, ho, _⟩ := ro.there
    rw [hp] at ho
    cases ho
end
def dispM : List (Key × M W) → M (List (Key × D))
  | [] => fun ρ => .ok [] ρ
  | (k, m) :: r => fun ρ => (m ρ).dat fun x ρ => (dispM r ρ).bind fun ps ρ => .ok ((k, x) :: ps) ρ
def mergeD (kvs more : List (Key × D)) : List (Key × D) := more.foldl (fun acc p => putD acc p.1 p.2) kvs
def dictM (ks : List (Key × M W)) : M W := fun ρ => (dispM ks ρ).bind fun kvs ρ => .ok (.own (.dct (mergeD [] kvs))) ρ
def trsOf (K : PySem.W.Frag) (mg : Str → Option Value) (Wx : WG) (ks : List (Key × M W)) : List (TE × TE) := ks.map fun p => (tC (kV p.1), tM K mg Wx p.2)
theorem merge_rel {K : PySem.W.Frag} {mg : Str → Option Value} {G : Hp} : ∀ {more : List (Key × D)} {ms : List (Key × V)} {kvs : List (Key × D)} {vs : List (Key × V)}, RKs K mg G kvs vs → RKs K mg G more ms → RKs K mg G (mergeD kvs more) (mergeK vs ms)
  | [], ms, _, _, r, q => by cases (show ms = [] from q); exact r
  | (k, d) :: more, ms, kvs, vs, r, ⟨y, ys, e, q, t⟩ => by
    subst e
    exact merge_rel (kvs := putD kvs k d) (vs := putK vs k y) (putD_rel q r) t
section
variable {K : PySem.W.Frag} {mg : Str → Option Value} {Wx : WG} {σ : St}
theorem disp_go {p : Addr} : ∀ {ks : List (Key × M W)} {ρ : Rho} {H G : Hp} {Qp : List (V × V) → Hp → Prop}, Rel K mg Wx.fl σ ρ H G → H p = some (.dK []) → G p = none → ¬ OwnS σ ρ p →
    (match dispM ks ρ with
      | .ok kvs ρ' => ∀ H' G' vs, Rel K mg Wx.fl σ ρ' H' G' → Fr [] σ ρ H G σ ρ' H' G' → RKs K mg G' kvs vs → H' p = some (.dK []) → G' p = none → ¬ OwnS σ ρ' p → Qp (vs.map fun kv => (kV kv.1, kv.2)) H'
      | .exc c fs ρ' => ∀ cls od H' G', Rel K mg Wx.fl σ ρ' H' G' → Fr [] σ ρ H G σ ρ' H' G' → RX K mg H' G' cls od c fs → Wx.w cls od σ H'
      | .bad => False) → tPairs (trsOf K mg Wx ks) σ H Qp
  | [], ρ, H, G, Qp, R, hp, gp, np, h => h H G [] R Fr.refl rfl hp gp np
  | (k, m) :: ks, ρ, H, G, Qp, R, hp, gp, np, h => by
    show tM K mg Wx m σ H fun y H2 => tPairs (trsOf K mg Wx ks) σ H2 fun ps H3 => Qp ((kV k, y) :: ps) H3
    refine ⟨ρ, G, R, ?_⟩
    have h' : (match ((m ρ).dat fun x ρ => (dispM ks ρ).bind fun ps ρ => .ok ((k, x) :: ps) ρ) with
      | .ok kvs ρ' => ∀ H' G' vs, Rel K mg Wx.fl σ ρ' H' G' → Fr [] σ ρ H G σ ρ' H' G' → RKs K mg G' kvs vs → H' p = some (.dK []) → G' p = none → ¬ OwnS σ ρ' p → Qp (vs.map fun kv => (kV kv.1, kv.2)) H'
      | .exc c fs ρ' => ∀ cls od H' G', Rel K mg Wx.fl σ ρ' H' G' → Fr [] σ ρ H G σ ρ' H' G' → RX K mg H' G' cls od c fs → Wx.w cls od σ H'
      | .bad => False) := h
    cases em : m ρ with
    | bad => rw [em] at h'; exact h'.elim
    | exc c fs ρ1 => rw [em] at h'; exact h'
    | ok w ρ1 =>
      rw [em] at h'
      intro v H1 G1 R1 F1 r1
      obtain ⟨G2, R2, F2, rv⟩ := keep_res R1 F1 r1
      obtain ⟨k1, k2, k3⟩ := F2.keep p _ hp True.intro gp np
      refine disp_go R2 k1 k2 k3 ?_
      have h2 : (match ((dispM ks ρ1).bind fun ps ρ => .ok ((k, w.data) :: ps) ρ) with
        | .ok kvs ρ' => ∀ H' G' vs, Rel K mg Wx.fl σ ρ' H' G' → Fr [] σ ρ H G σ ρ' H' G' → RKs K mg G' kvs vs → H' p = some (.dK []) → G' p = none → ¬ OwnS σ ρ' p → Qp (vs.map fun kv => (kV kv.1, kv.2)) H'
        | .exc c fs ρ' => ∀ cls od H' G', Rel K mg Wx.fl σ ρ' H' G' → Fr [] σ ρ H G σ ρ' H' G' → RX K mg H' G' cls od c fs → Wx.w cls od σ H'
        | .bad => False) := h'
      cases ed : dispM ks ρ1 with
      | bad => rw [ed] at h2; exact h2
      | exc c fs ρ2 => rw [ed] at h2; exact fun cls od H' G' R' F' rx => h2 cls od H' G' R' (F2.trans F') rx
      | ok kvs ρ2 =>
        rw [ed] at h2
        exact fun H' G' vs R' F' rk a b c => h2 H' G' ((k, v) :: vs) R' (F2.trans F') ⟨v, vs, rfl, RV.mono F'.grow _ _ rv, rk⟩ a b c
theorem dict_go {ks : List (Key × M W)} {H : Hp} {Q : VK} (h15 : ks.length ≤ 15) (h : tM K mg Wx (dictM ks) σ H Q) : tDisp (trsOf K mg Wx ks) σ H Q := by
  obtain ⟨ρ, G, R, h⟩ := h
  intro p hp
  obtain ⟨gp, np⟩ := R.noG hp
  have R0 : Rel K mg Wx.fl σ ρ (upd H p (.dK [])) G := R.aside gp np (fun u e => by rw [hp] at e; cases e)
  refine disp_go R0 upd_same gp np ?_
  have h' : GoE K mg Wx σ ρ H G ((dispM ks ρ).bind fun kvs ρ => .ok (.own (.dct (mergeD [] kvs))) ρ) Q := h
  have len : ∀ {ks : List (Key × M W)} {ρ ρ' : Rho} {kvs : List (Key × D)}, dispM ks ρ = .ok kvs ρ' → kvs.length = ks.length := fun {ks} => by
    induction ks with
    | nil => intro ρ ρ' kvs e; cases e; rfl
    | cons km ks ih =>
      intro ρ ρ' kvs e
      obtain ⟨k, m⟩ := km
      have e' : ((m ρ).dat fun x ρ => (dispM ks ρ).bind fun ps ρ => .ok ((k, x) :: ps) ρ) = .ok kvs ρ' := e
      cases em : m ρ with
      | bad => rw [em] at e'; cases e'
      | exc c fs ρ1 => rw [em] at e'; cases e'
      | ok w ρ1 =>
        rw [em] at e'
        have e2 : ((dispM ks ρ1).bind fun ps ρ => .ok ((k, w.data) :: ps) ρ) = .ok kvs ρ' := e'
        cases ed : dispM ks ρ1 with
        | bad => rw [ed] at e2; cases e2
        | exc c fs ρ2 => rw [ed] at e2; cases e2
        | ok ps ρ2 =>
          rw [ed] at e2
          cases e2
          rw [List.length_cons, List.length_cons, ih ed]
  cases ed : dispM ks ρ with
  | bad => rw [ed] at h'; exact h'
  | exc c fs ρ1 => rw [ed] at h'; exact fun cls od H' G' R' F' rx => h' cls od H' G' R' (Fr.aside0 hp F') rx
  | ok kvs ρ1 =>
    rw [ed] at h'
    intro H' G' vs R' F' rk hp' gp' np'
    have hl : vs.length ≤ 15 := by rw [← rk.length, len ed]; exact h15
    refine ⟨hp', vs, rfl, hl, ?_⟩
    have rm : RKs K mg G' (mergeD [] kvs) (mergeK [] vs) := merge_rel rfl rk
    refine h' (.ref p) (upd H' p (.dK (mergeK [] vs))) G' (R'.aside gp' np' (fun u e => by rw [hp'] at e; cases e; exact True.intro)) (Fr.aside hp F') ⟨⟨p, rfl, gp', _, upd_same, rm⟩, fun x a e1 e2 => ?_⟩
    cases e2
    exact ⟨np', fun o ho _ => by rw [hp] at ho; cases ho⟩
end
theorem pm_dict {X : Cx} {Wx : WG} {pos : Pos} {keys : List (Option Expr)} {values : List Expr} {ks : List (Key × M W)} (h : PPs X pos keys values (trsOf X.K X.mg Wx ks)) (hall : keys.all (·.isSome) = true) (hl : keys.length = values.length) (h0 : keys ≠ []) (h15 : keys.length ≤ 15) (hk : ks.length ≤ 15) :
    PM X Wx (.Dict keys values pos) (dictM ks) := peImp (pe_disp h hall hl h0 h15) fun σ H Q h => dict_go hk h
section
variable {X : Cx} {Wx : WG} {io : List Nat} {elt tg iter : Expr} {ifs : List Expr} {scope : Scope} {own : List (Str × Nat)} {pos spos py : Pos} {mi : M (List D)} {g : D → M Unit} {t : M Bool} {el : M W} {y : Str} {i : Nat}
abbrev NoX (fl : Flr) : WG := ⟨fun _ _ _ _ => False, fl⟩
theorem pm_lc (hc : X.calm = true) (hN : X.N.Nodup) (hi : PMI X Wx tg iter mi) (ok : BlkOk X.N X.env.scope scope own)
    (hg : ∀ (s : Shared) (H : Hp) (C : Addr) (cl : List (Str × Addr)) (fp : List Addr), PMG (X.blk s H scope (compEnvC scope cl C X.env) fp) Wx.fl (outs X.N.length (own.map (·.2))) tg g)
    (ht : ∀ (s : Shared) (H : Hp) (C : Addr) (cl : List (Str × Addr)) (fp : List Addr), PTs (X.blk s H scope (compEnvC scope cl C X.env) fp) ifs (tB2 X.K X.mg (NoX Wx.fl) t))
    (he : ∀ (s : Shared) (H : Hp) (C : Addr) (cl : List (Str × Addr)) (fp : List Addr), PM (X.blk s H scope (compEnvC scope cl C X.env) fp) (NoX Wx.fl) elt el) (hs : ∀ x, foldedSetIterable iter X.env x = pure x) :
    PM X Wx (.ListComp elt [⟨tg, iter, ifs, 0⟩] scope pos) (lcM mi g t el (own.map (·.2))) :=
  ⟨fun pins s σ H Q I h => by
    have k := lc_go h
    rw [I.len] at k
    exact (pe_lc hc hN hi ok hg ht he hs).run pins s σ H Q I k⟩
theorem pms_setLc (hc : X.calm = true) (hN : X.N.Nodup) (hy : X.N[i]? = some y) (hyl : X.env.scope.names.lookup y = some .local)
    (hsw : swapsWith (.ListComp elt [⟨tg, iter, ifs, 0⟩] scope pos) (some (.Name y py)) spos.line X.env = pure true) (hi : PMI X Wx tg iter mi) (ok : BlkOk X.N X.env.scope scope own)
    (hg : ∀ (s : Shared) (H : Hp) (C : Addr) (cl : List (Str × Addr)) (fp : List Addr), PMG (X.blk s H scope (compEnvC scope cl C X.env) fp) Wx.fl (outs X.N.length (own.map (·.2))) tg g)
    (ht : ∀ (s : Shared) (H : Hp) (C : Addr) (cl : List (Str × Addr)) (fp : List Addr), PTs (X.blk s H scope (compEnvC scope cl C X.env) fp) ifs (tB2 X.K X.mg (NoX Wx.fl) t))
    (he : ∀ (s : Shared) (H : Hp) (C : Addr) (cl : List (Str × Addr)) (fp : List Addr), PM (X.blk s H scope (compEnvC scope cl C X.env) fp) (NoX Wx.fl) elt el) (hs : ∀ x, foldedSetIterable iter X.env x = pure x) :
    PMS X Wx io (.Assign [.Name y py] (.ListComp elt [⟨tg, iter, ifs, 0⟩] scope pos) spos) (setM io i (lcM mi g t el (own.map (·.2)))) :=
  ⟨fun pins s σ H D I h => by
    refine (ps_setLc (g := tG X.K X.mg Wx.fl (outs X.N.length (own.map (·.2))) g) (tt := tB2 X.K X.mg (NoX Wx.fl) t) (te := tM X.K X.mg (NoX Wx.fl) el) hc hN hy hyl hsw hi ok hg ht he hs).run pins s σ H D I ?_
    obtain ⟨ρ, G, R, h⟩ := h
    have k := lc_go (tM_mono (tM_bindS (io := io) R h) fun v H1 ⟨w, ρ1, G1, R1, F1, r, k⟩ => show gName i v σ H1 D.nx from by
      split at k
      · exact k.elim
      · rename_i hn
        obtain ⟨R2, F2⟩ := R1.store F1 r.1 (fun x a e1 e2 => r.2 x a e1 e2) (not_io hn)
        exact k _ H1 G1 R2 F2)
    rw [I.len] at k
    exact k⟩
end
end FL
set_option Elab.async false
set_option linter.all false
set_option maxRecDepth 100000
set_option maxHeartbeats 2000000
namespace FL
open PySem PySem.Spec L2
open PyProof.Rows hiding St
def isC (cl : List (Str × Addr)) (b : Addr) : Bool := cl.any fun p => cl.lookup p.1 == some b
theorem isC_look {cl : List (Str × Addr)} {b : Addr} (h : isC cl b = true) : ∃ x, cl.lookup x = some b := by
  obtain ⟨p, _, e⟩ := List.any_eq_true.mp h
  exact ⟨p.1, eq_of_beq e⟩
theorem look_isC {cl : List (Str × Addr)} {x : Str} {b : Addr} (h : cl.lookup x = some b) : isC cl b = true :=
  List.any_eq_true.mpr ⟨(x, b), PySem.mem_of_lookup h, by simp [h]⟩
/-- a cell, known to its object -/
def cellF (o : Obj) : HO := .frz o (.own 0)
def strip (cl : List (Str × Addr)) (H : Hp) : Hp := fun b => if isC cl b = true then none else H b
def cup (cl : List (Str × Addr)) (h : Heap) (H : Hp) : Hp := fun b => if isC cl b = true then (match h.get? b with
  | some o => some (cellF o)
  | none => none) else H b
section
variable {cl : List (Str × Addr)} {b : Addr} {h h' : Heap} {H H' : Hp} {o : Obj} {u : HO} {P : Program} {w : World}
theorem strip_in (c : isC cl b = true) : strip cl H b = none := if_pos c
theorem strip_no (c : isC cl b = false) : strip cl H b = H b := if_neg (by rw [c]; exact Bool.false_ne_true)
theorem cup_in (c : isC cl b = true) (e : h.get? b = some o) : cup cl h H b = some (cellF o) := by
  unfold cup
  rw [if_pos c, e]
theorem cup_no (c : isC cl b = false) : cup cl h H b = H b := if_neg (by rw [c]; exact Bool.false_ne_true)
theorem strip_some (e : strip cl H b = some u) : isC cl b = false ∧ H b = some u := by
  cases c : isC cl b with
  | true => rw [strip_in c] at e; cases e
  | false => rw [strip_no c] at e; exact ⟨rfl, e⟩
/-- the cells stand in the heap, they are not tracked -/
def CelN (cl : List (Str × Addr)) (h : Heap) (H : Hp) : Prop := ∀ b, isC cl b = true → H b = none ∧ ∃ o v, h.get? b = some o ∧ o.data = .cell v
/-- the cells stand in the heap, tracked as they are -/
def CelT (cl : List (Str × Addr)) (h : Heap) (H : Hp) : Prop := ∀ b, isC cl b = true → ∃ o v, H b = some (cellF o) ∧ h.get? b = some o ∧ o.data = .cell v
theorem CelN.no (c : CelN cl h H) (e : H b = some u) : isC cl b = false := by
  cases q : isC cl b with
  | false => rfl
  | true => rw [(c b q).1] at e; cases e
theorem CelT.no (c : CelT cl h H) (e : H b = some u) (n : ∀ o, u ≠ cellF o) : isC cl b = false := by
  cases q : isC cl b with
  | false => rfl
  | true =>
    obtain ⟨o, _, e', _⟩ := c b q
    rw [e] at e'
    exact absurd (Option.some.inj e') (n o)
theorem CelN.up (c : CelN cl h H) : CelT cl h (cup cl h H) := fun b q => by
  obtain ⟨_, o, v, e, d⟩ := c b q
  exact ⟨o, v, cup_in q e, e, d⟩
theorem hok_up (ok : HOk P w H h) (c : ∀ b, isC cl b = true → H b = none) : HOk P w (cup cl h H) h := fun b u e => by
  have no : ∀ {d : Addr} {y : HO}, H d = some y → isC cl d = false := fun {d y} z => by
    cases q : isC cl d with
    | false => rfl
    | true => rw [c d q] at z; cases z
  cases q : isC cl b with
  | true =>
    unfold cup at e
    rw [if_pos q] at e
    cases g : h.get? b with
    | none => rw [g] at e; cases e
    | some o =>
      rw [g] at e
      cases e
      exact ⟨g, o, g⟩
  | false =>
    rw [cup_no q] at e
    exact (ok b u e).stay (fun _ _ _ z => z) (fun d z => by rw [cup_no (no z)]; exact z) fun d xs z => by rw [cup_no (no z)]; exact z
theorem hok_down (ok : HOk P w H h) (c : ∀ b, isC cl b = true → ∃ o, H b = some (cellF o)) : HOk P w (strip cl H) h := fun b u e => by
  obtain ⟨_, e'⟩ := strip_some e
  have no : ∀ {d : Addr} {y : HO}, H d = some y → (∀ o, y ≠ cellF o) → isC cl d = false := fun {d y} z n => by
    cases q : isC cl d with
    | false => rfl
    | true =>
      obtain ⟨o, e2⟩ := c d q
      rw [z] at e2
      exact absurd (Option.some.inj e2) (n o)
  exact (ok b u e').stay (fun _ _ _ z => z) (fun d z => by rw [strip_no (no z fun o q => nomatch q)]; exact z) fun d xs z => by rw [strip_no (no z fun o q => nomatch q)]; exact z
end
section
variable {cl : List (Str × Addr)} {P : Program} {w : World} {K : PySem.W.Frag} {mg : Str → Option Value} {base : Heap} {A : Around} {outer : List Env} {s : Shared} {H H' : Hp} {fs : List Addr} {h' B : Heap}
theorem env_up (e : Env0 P w K mg base A outer s H) (c : CelN cl s.heap H) (nb : ∀ b, isC cl b = true → base.get? b = none) (nf : ∀ b ∈ frs outer, isC cl b = false) : Env0 P w K mg base A outer s (cup cl s.heap H) :=
  ⟨e.frames, e.mod, fun b o q => ⟨(e.bs b o q).1, by
    cases z : isC cl b with
    | true => rw [nb b z] at q; cases q
    | false => rw [cup_no z]; exact (e.bs b o q).2⟩, e.bsz, e.funs, fun b hb => by rw [cup_no (nf b hb)]; exact e.frf b hb, hok_up e.hok fun b q => (c b q).1, e.bare⟩
theorem env_down (e : Env0 P w K mg base A outer s H) (c : CelT cl s.heap H) : Env0 P w K mg base A outer s (strip cl H) :=
  ⟨e.frames, e.mod, fun b o q => ⟨(e.bs b o q).1, by
    cases z : isC cl b with
    | true => exact strip_in z
    | false => rw [strip_no z]; exact (e.bs b o q).2⟩, e.bsz, e.funs, fun b hb => by
    cases z : isC cl b with
    | true => exact strip_in z
    | false => rw [strip_no z]; exact e.frf b hb, hok_down e.hok fun b q => let ⟨o, _, z, _⟩ := c b q; ⟨o, z⟩, e.bare⟩
/-- down: from the call that knew the cells -/
theorem cel_then (c : CelN cl s.heap H) (fr : ∀ b o x, cup cl s.heap H b = some (.frz o x) → H' b = some (.frz o x)) (ok : HOk P w H' h') : ∀ b, isC cl b = true → ∃ o v, H' b = some (cellF o) ∧ s.heap.get? b = some o ∧ h'.get? b = some o ∧ o.data = .cell v := fun b q => by
  obtain ⟨_, o, v, e, d⟩ := c b q
  have e1 := fr b o _ (cup_in (H := H) q e)
  exact ⟨o, v, e1, e, (ok b _ e1).1, d⟩
theorem un_down (c : CelN cl s.heap H) (u : Un fs [] (cup cl s.heap H) H' s.heap h') (ok : HOk P w H' h') : Un fs [] H (strip cl H') s.heap h' := by
  have ct := cel_then c u.frzs ok
  have up : ∀ {b : Addr}, H b = none → isC cl b = false → cup cl s.heap H b = none := fun n q => by rw [cup_no q]; exact n
  have st : ∀ {b : Addr} {y : HO}, H b = some y → cup cl s.heap H b = some y := fun n => by rw [cup_no (c.no n)]; exact n
  refine ⟨fun b o e n hf hx => ?_, fun b o e n hf hx => ?_, fun b o e n hx => ?_, u.there, fun b xs e => ?_, fun b o x e => ?_, fun b ps e => ?_⟩
  · cases q : isC cl b with
    | true =>
      obtain ⟨o', _, _, e1, e2, _⟩ := ct b q
      rw [e] at e1
      cases e1
      exact e2
    | false => exact u.keep b o e (up n q) hf hx
  · cases q : isC cl b with
    | true =>
      obtain ⟨o', _, _, e1, e2, _⟩ := ct b q
      rw [e] at e1
      cases e1
      exact ⟨o.slots, e2⟩
    | false => exact u.slot b o e (up n q) hf hx
  · cases q : isC cl b with
    | true => exact strip_in q
    | false => rw [strip_no q]; exact u.free b o e (up n q) hx
  · rw [strip_no (c.no e)]
    exact u.tups b xs (st e)
  · rw [strip_no (c.no e)]
    exact u.frzs b o x (st e)
  · rw [strip_no (c.no e)]
    exact u.tbls b ps (st e)
theorem ub_down (c : CelN cl s.heap H) (u : UB fs (cup cl s.heap H) H' s.heap B h') (ok : HOk P w H' B) : UB fs H (strip cl H') s.heap B h' := by
  have ct := cel_then c u.frzs ok
  have up : ∀ {b : Addr}, H b = none → isC cl b = false → cup cl s.heap H b = none := fun n q => by rw [cup_no q]; exact n
  have st : ∀ {b : Addr} {y : HO}, H b = some y → cup cl s.heap H b = some y := fun n => by rw [cup_no (c.no n)]; exact n
  refine ⟨fun b o e n hf => ?_, u.slot, fun b o e n => ?_, u.there, fun b xs e => ?_, fun b o x e => ?_, fun b ps e => ?_⟩
  · cases q : isC cl b with
    | true =>
      obtain ⟨o', _, _, e1, e2, _⟩ := ct b q
      rw [e] at e1
      cases e1
      exact e2
    | false => exact u.keep b o e (up n q) hf
  · cases q : isC cl b with
    | true => exact strip_in q
    | false => rw [strip_no q]; exact u.free b o e (up n q)
  · rw [strip_no (c.no e)]
    exact u.tups b xs (st e)
  · rw [strip_no (c.no e)]
    exact u.frzs b o x (st e)
  · rw [strip_no (c.no e)]
    exact u.tbls b ps (st e)
theorem cr_down {Q Q' : VK} {E E' : XK} {r : Result} {s' : Shared} (c : CelN cl s.heap H) (hq : ∀ v H', Q v H' → Q' v (strip cl H')) (he : ∀ cls d H', E cls d H' → E' cls d (strip cl H')) (h : CR (L2.CX P w) outer P w (cup cl s.heap H) s Q E r s') : CR (L2.CX P w) outer P w H s Q' E' r s' := by
  match r, h with
  | .ok (.ret u), h =>
    obtain ⟨v, H', os, bare, un, ok, rv, q⟩ := h
    have ct := cel_then c un.frzs ok
    exact ⟨v, strip cl H', os, bare, un_down c un ok, hok_down ok fun b z => let ⟨o, _, e, _⟩ := ct b z; ⟨o, e⟩, rv, hq v H' q⟩
  | .ok .next, h => exact False.elim h
  | .ok .brk, h => exact False.elim h
  | .ok .cont, h => exact False.elim h
  | .error e, h =>
    obtain ⟨a, B, H', cls, d, eu, fl, ok, ub, na, os, bare, q⟩ := h
    have ct := cel_then c ub.frzs ok
    refine ⟨a, B, strip cl H', cls, d, eu, fl, hok_down ok fun b z => let ⟨o, _, e, _⟩ := ct b z; ⟨o, e⟩, ub_down c ub ok, ?_, os, bare, he cls d H' q⟩
    cases z : isC cl a with
    | true => exact strip_in z
    | false => rw [strip_no z]; exact na
/-- up: from the call that did not know them -/
theorem un_up (c : CelT cl s.heap H) (nf : ∀ b ∈ fs, isC cl b = false) (u : Un fs [] (strip cl H) H' s.heap h') : Un fs [] H (cup cl s.heap H') s.heap h' := by
  have nC : ∀ {b : Addr}, H b = none → isC cl b = false := fun {b} n => by
    cases q : isC cl b with
    | false => rfl
    | true =>
      obtain ⟨o, _, e, _⟩ := c b q
      rw [n] at e
      cases e
  have dn : ∀ {b : Addr}, H b = none → strip cl H b = none := fun n => by rw [strip_no (nC n)]; exact n
  refine ⟨fun b o e n hf hx => u.keep b o e (dn n) hf hx, fun b o e n hf hx => u.slot b o e (dn n) hf hx, fun b o e n hx => ?_, u.there, fun b xs e => ?_, fun b o x e => ?_, fun b ps e => ?_⟩
  · rw [cup_no (nC n)]
    exact u.free b o e (dn n) hx
  · have q := c.no e fun o z => nomatch z
    rw [cup_no q]
    exact u.tups b xs (by rw [strip_no q]; exact e)
  · cases q : isC cl b with
    | true =>
      obtain ⟨o', _, e1, e2, _⟩ := c b q
      rw [e] at e1
      rw [cup_in q e2]
      exact e1.symm
    | false =>
      rw [cup_no q]
      exact u.frzs b o x (by rw [strip_no q]; exact e)
  · have q := c.no e fun o z => nomatch z
    rw [cup_no q]
    exact u.tbls b ps (by rw [strip_no q]; exact e)
theorem hok_up2 (c : CelT cl s.heap H) (nf : ∀ b, isC cl b = true → b ∉ fs) (k : ∀ b o, s.heap.get? b = some o → strip cl H b = none → b ∉ fs → h'.get? b = some o) (fr : ∀ b o, s.heap.get? b = some o → strip cl H b = none → H' b = none) (ok : HOk P w H' h') : HOk P w (cup cl s.heap H') h' := fun b u e => by
  have no : ∀ {d : Addr} {y : HO}, H' d = some y → isC cl d = false := fun {d y} z => by
    cases q : isC cl d with
    | false => rfl
    | true =>
      obtain ⟨o, _, _, e2, _⟩ := c d q
      rw [fr d o e2 (strip_in q)] at z
      cases z
  cases q : isC cl b with
  | true =>
    obtain ⟨o, _, _, e2, _⟩ := c b q
    rw [cup_in q e2] at e
    cases e
    have e3 := k b o e2 (strip_in q) (nf b q)
    exact ⟨e3, o, e3⟩
  | false =>
    rw [cup_no q] at e
    exact (ok b u e).stay (fun _ _ _ z => z) (fun d z => by rw [cup_no (no z)]; exact z) fun d xs z => by rw [cup_no (no z)]; exact z
theorem ub_up (c : CelT cl s.heap H) (u : UB fs (strip cl H) H' s.heap B h') : UB fs H (cup cl s.heap H') s.heap B h' := by
  have nC : ∀ {b : Addr}, H b = none → isC cl b = false := fun {b} n => by
    cases q : isC cl b with
    | false => rfl
    | true =>
      obtain ⟨o, _, e, _⟩ := c b q
      rw [n] at e
      cases e
  have dn : ∀ {b : Addr}, H b = none → strip cl H b = none := fun n => by rw [strip_no (nC n)]; exact n
  refine ⟨fun b o e n hf => u.keep b o e (dn n) hf, u.slot, fun b o e n => ?_, u.there, fun b xs e => ?_, fun b o x e => ?_, fun b ps e => ?_⟩
  · rw [cup_no (nC n)]
    exact u.free b o e (dn n)
  · have q := c.no e fun o z => nomatch z
    rw [cup_no q]
    exact u.tups b xs (by rw [strip_no q]; exact e)
  · cases q : isC cl b with
    | true =>
      obtain ⟨o', _, e1, e2, _⟩ := c b q
      rw [e] at e1
      rw [cup_in q e2]
      exact e1.symm
    | false =>
      rw [cup_no q]
      exact u.frzs b o x (by rw [strip_no q]; exact e)
  · have q := c.no e fun o z => nomatch z
    rw [cup_no q]
    exact u.tbls b ps (by rw [strip_no q]; exact e)
theorem cr_up {Q Q' : VK} {E E' : XK} {r : Result} {s' : Shared} (c : CelT cl s.heap H) (nf : ∀ b, isC cl b = true → b ∉ frs outer) (hq : ∀ v H', (∀ b, isC cl b = true → H' b = none) → Q v H' → Q' v (cup cl s.heap H')) (he : ∀ cls d H', (∀ b, isC cl b = true → H' b = none) → E cls d H' → E' cls d (cup cl s.heap H'))
    (h : CR (L2.CX P w) outer P w (strip cl H) s Q E r s') : CR (L2.CX P w) outer P w H s Q' E' r s' := by
  have nf' : ∀ b ∈ frs outer, isC cl b = false := fun b hb => by
    cases q : isC cl b with
    | false => rfl
    | true => exact absurd hb (nf b q)
  have free : ∀ {H' : Hp}, (∀ b o, s.heap.get? b = some o → strip cl H b = none → H' b = none) → ∀ b, isC cl b = true → H' b = none := fun {H'} f b q => by
    obtain ⟨o, _, _, e2, _⟩ := c b q
    exact f b o e2 (strip_in q)
  match r, h with
  | .ok (.ret u), h =>
    obtain ⟨v, H', os, bare, un, ok, rv, q⟩ := h
    exact ⟨v, cup cl s.heap H', os, bare, un_up c nf' un, hok_up2 c nf (fun b o e n hf => un.keep b o e n hf (by simp)) (fun b o e n => un.free b o e n (by simp)) ok, rv, hq v H' (free fun b o e n => un.free b o e n (by simp)) q⟩
  | .ok .next, h => exact False.elim h
  | .ok .brk, h => exact False.elim h
  | .ok .cont, h => exact False.elim h
  | .error e, h =>
    obtain ⟨a, B, H', cls, d, eu, fl, ok, ub, na, os, bare, q⟩ := h
    refine ⟨a, B, cup cl s.heap H', cls, d, eu, fl, hok_up2 c nf ub.keep ub.free ok, ub_up c ub, ?_, os, bare, he cls d H' (free ub.free) q⟩
    cases z : isC cl a with
    | false => rw [cup_no z]; exact na
    | true =>
      exfalso
      obtain ⟨o, v, _, e2, dv⟩ := c a z
      have e3 := fl.1 _ _ (ub.keep a o e2 (strip_in z) (nf a z))
      obtain ⟨oe, vs, e4, _, d4⟩ := fl.there
      rw [e3] at e4
      cases e4
      rw [dv] at d4
      cases d4
end
end FL
set_option Elab.async false
set_option linter.all false
set_option maxRecDepth 100000
set_option maxHeartbeats 2000000
namespace FL
open PySem PySem.Spec L2
open PyProof.Rows hiding St
abbrev cloOf (X : Cx) (scope : Scope) : List (Str × Addr) := cloFrom X.env.cells scope.names []
theorem clo_look {X : Cx} {scope : Scope} (L : LamX.LamS X.env.scope scope) (ok : X.Ok) {y : Str} {c : Addr} (e : (cloOf X scope).lookup y = some c) : X.env.cells.lookup y = some c := by
  rcases cloFrom_mem (PySem.mem_of_lookup e) with z | ⟨z1, z2⟩
  · exact absurd z (by simp)
  · obtain ⟨d, hd⟩ := L.has ok _ z1 rfl
    have hd' : X.env.cells.lookup y = some d := hd
    rw [hd', Option.getD_some] at z2
    rw [hd', z2]
theorem clo_has {X : Cx} {scope : Scope} {y : Str} (h : scope.names.lookup y = some .free) : ∃ c, (cloOf X scope).lookup y = some c :=
  mem_lookup (cloFrom_has (cells := X.env.cells) (acc := []) (PySem.mem_of_lookup h))
section
variable {X : Cx} {pins : List (Addr × Obj)} {σ : St} {H HZ : Hp} {s s1 : Shared}
/-- the lambda's frame: its names are the maker's -/
theorem lam_st {A : Around} {outer : List Env} {E : XK} {scope : Scope} {f c' : Addr} {hp : Heap} {n : Nat} (I : Inv X pins σ H s) (L : LamX.LamS X.env.scope scope) (env0 : Env0 X.prog X.w X.K X.mg X.base A outer s1 HZ) (calm : A.handled = none)
    (cel : ∀ b o, isC X.env.cells b = true → s.heap.get? b = some o → s1.heap.get? b = some o) (hz : ∀ b, isC X.env.cells b = true → HZ b = none)
    (ns : hp.Ns s1.heap.objs.size fun y => ([] : List (Str × Value)).reverse.lookup y) (old : ∀ b o, s1.heap.get? b = some o → hp.get? b = some o) :
    Inv (LamX.lamCx X A outer s1 HZ E scope f c') [] σ HZ { s1 with heap := hp, toks := n } := by
  have cellK : ∀ {c : Addr} {v : Option Value}, isC X.env.cells c = true → s.heap.IsCell c v → hp.IsCell c v := fun q ⟨o, e, d⟩ => ⟨o, old _ _ (cel _ o q e), d⟩
  have up : ∀ {y : Str} {c : Addr}, (LamX.lamCx X A outer s1 HZ E scope f c').env.cells.lookup y = some c → X.env.cells.lookup y = some c := fun e => clo_look L I.ok e
  have none_ : ∀ b : Addr, b ∉ (LamX.lamCx X A outer s1 HZ E scope f c').ex := fun b z => absurd (show b ∈ ([] : List Addr) from z) (by simp)
  have vis : ∀ {y : Str}, scope.names.lookup y = some .free → Vis X.env.scope y := fun z => (L.free _ (PySem.mem_of_lookup z) rfl).elim (fun q => .inr (.inl q)) fun q => .inr (.inr q)
  refine { ok := ?ok, os := rfl, bare := env0.bare, base := Un.kept old, loc := ⟨_, ns, ?loc⟩, cell := ?cell, free := env0.hok.fresh (Nat.le_refl _), freeC := ?freeC, pin := ?pin, hok := env0.hok.kept old, len := I.len }
  case ok =>
    refine { mod := env0.mod, kind := L.kind, glob := rfl, blt := rfl, above := Nat.le_refl _, inj := ?inj, has := ?has, cab := ?cab, hd := fun _ => calm, frames := Around.frames_deeper env0.frames, stk := .inr ⟨rfl, rfl⟩, exf := ?exf, bs := env0.bs, bsz := env0.bsz, noex := fun b _ _ => none_ b, exfs := ?exfs, funs := env0.funs, frf := env0.frf }
    case inj => exact fun x y c e1 e2 => I.ok.inj x y c (up e1) (up e2)
    case has =>
      intro y hy
      have hy' : scope.names.lookup y = some .cell ∨ scope.names.lookup y = some .free := hy
      rcases hy' with z | z
      · exact absurd rfl (L.own _ (PySem.mem_of_lookup z)).2
      · exact clo_has z
    case cab =>
      intro x c z
      have z' : false = true := z
      cases z'
    case exf => exact fun b z => absurd z (none_ b)
    case exfs => exact fun b z => absurd z (none_ b)
  case loc =>
    intro i y v e1 e2 e3
    have e3' : Vis scope y := e3
    rcases e3' with z | z | z
    · exact absurd rfl (L.own _ (PySem.mem_of_lookup z)).1
    · exact absurd rfl (L.own _ (PySem.mem_of_lookup z)).2
    · obtain ⟨m, _, get⟩ := I.loc
      obtain ⟨u, ru, look⟩ := get i y v e1 e2 (vis z)
      obtain ⟨c, hc⟩ := clo_has (X := X) z
      have hc' := clo_look L I.ok hc
      refine ⟨u, ru, .inr ⟨.inr z, c, hc, ?_⟩⟩
      rcases look with ⟨q, _⟩ | ⟨_, d, hd, cd⟩
      · have q' : X.env.scope.names.lookup y = some .local := q
        rcases L.free _ (PySem.mem_of_lookup z) rfl with w | w
        · rw [show X.env.scope.names.lookup y = _ from w] at q'; cases q'
        · rw [show X.env.scope.names.lookup y = _ from w] at q'; cases q'
      · rw [hc'] at hd
        cases hd
        exact cellK (look_isC hc') cd
  case cell =>
    intro x c e
    obtain ⟨v, cd⟩ := I.cell x c (up e)
    exact ⟨v, cellK (look_isC (up e)) cd⟩
  case freeC => exact fun x c e => hz c (look_isC (up e))
  case pin => exact fun q hq => absurd (show q ∈ ([] : List (Addr × Obj)) ++ [] from hq) (by simp)
end
/-- what the lambda's frame sees of the maker's slots -/
def dropW : Option W → Option W
  | some (.d x) => some (.d x)
  | _ => none
def lamFR : Res W → FR
  | .ok w _ => .ok (.d w.data) []
  | .exc c fs _ => .exc c fs []
  | .bad => .bad
theorem dropW_get {ρ : Rho} {i : Nat} {w : W} (e : (ρ.map dropW)[i]? = some (some w)) : ∃ x, w = .d x ∧ ρ[i]? = some (some (.d x)) := by
  rw [List.getElem?_map] at e
  cases q : ρ[i]? with
  | none => rw [q] at e; cases e
  | some u =>
    rw [q] at e
    cases u with
    | none => cases e
    | some w' =>
      cases w' with
      | d x =>
        have e' : W.d x = w := Option.some.inj (Option.some.inj e)
        exact ⟨x, e'.symm, rfl⟩
      | own x => cases e
theorem drop_own {σ : St} {ρ : Rho} {b : Addr} : ¬ OwnS σ (ρ.map dropW) b := fun ⟨i, x, e, _⟩ => by
  obtain ⟨y, z, _⟩ := dropW_get e
  cases z
theorem tabs_strip {T : List (Addr × Str)} {cl : List (Str × Addr)} {h : Heap} {H : Hp} (c : CelT cl h H) (t : LamX.Tabs T H) : LamX.Tabs T (strip cl H) := fun p hp => by
  obtain ⟨ps, h1, h2, h3⟩ := t p hp
  have no : ∀ {b : Addr} {u : HO}, H b = some u → (∀ o, u ≠ cellF o) → strip cl H b = some u := fun e n => by rw [strip_no (c.no e n)]; exact e
  refine ⟨ps, no h1 (fun o z => nomatch z), h2, fun pos cv hc => ?_⟩
  obtain ⟨d, e1, e2⟩ := h3 pos cv hc
  exact ⟨d, e1, no e2 fun o z => nomatch (show HO.ext _ = HO.frz _ _ from z)⟩
theorem tabs_cup {T : List (Addr × Str)} {cl : List (Str × Addr)} {h : Heap} {H : Hp} (c : ∀ b, isC cl b = true → H b = none) (t : LamX.Tabs T H) : LamX.Tabs T (cup cl h H) := fun p hp => by
  obtain ⟨ps, h1, h2, h3⟩ := t p hp
  have no : ∀ {b : Addr} {u : HO}, H b = some u → cup cl h H b = some u := fun {b u} e => by
    have q : isC cl b = false := by
      cases q : isC cl b with
      | false => rfl
      | true => rw [c b q] at e; cases e
    rw [cup_no q]
    exact e
  refine ⟨ps, no h1, h2, fun pos cv hc => ?_⟩
  obtain ⟨d, e1, e2⟩ := h3 pos cv hc
  exact ⟨d, e1, no e2⟩
/-- no parameter -/
def noPar : Arguments → Bool
  | ⟨[], [], none, [], [], none, []⟩ => true
  | _ => false
theorem noPar_eq {p : Arguments} (h : noPar p = true) : p = ⟨[], [], none, [], [], none, []⟩ := by
  unfold noPar at h
  split at h
  · rfl
  · cases h
/-- the wish about exceptions in the lambda's frame -/
theorem lam_takes {X : Cx} {A : Around} {outer : List Env} {s : Shared} {H : Hp} {E : XK} {scope : Scope} {f c' : Addr} : Takes (LamX.lamCx X A outer s H E scope f c') fun cls d _ H' => E cls d H' := takes_of rfl rfl rfl rfl
section
variable {X : Cx} {pins : List (Addr × Obj)} {σ : St} {ρ : Rho} {H G : Hp} {s : Shared} {fl : Flr} {Λ : D → FR}
theorem Inv.celN (I : Inv X pins σ H s) : CelN X.env.cells s.heap H := fun b q => by
  obtain ⟨x, e⟩ := isC_look q
  obtain ⟨v, o, h1, h2⟩ := I.cell x b e
  exact ⟨I.freeC x b e, o, v, h1, h2⟩
/-- THE RULE for lambdas: a known one answers as its body tells -/
theorem lamVs_mk (I : Inv X pins σ H s) (R : Rel X.K X.mg fl σ ρ H G)
    (hΛ : ∀ d, Λ d ≠ .bad → ∃ c : LamC, d = .clo (cloOf X c.scope) c ∧ c.qual = X.env.qual ++ "<lambda>" ∧ LamX.LamS X.env.scope c.scope ∧ noPar c.params = true ∧ ∃ m : M W, Λ d = lamFR (m (ρ.map dropW)) ∧
      ∀ (A : Around) (outer : List Env) (s1 : Shared) (H1 : Hp) (E : XK) (f c' : Addr) (fl' : Flr), Room (KL - 1) (A.deeper (LamX.lamEnv X c.scope s1.heap.objs.size f c')) → A.guards = some [] → PM (LamX.lamCx X A outer s1 H1 E c.scope f c') ⟨fun cls d _ H' => E cls d H', fl'⟩ c.body m) :
    LamVs X.prog X.w X.K X.mg X.base ⟨cup X.env.cells s.heap G, fl.T⟩ Λ := by
  intro d f Gz A outer s1 H1 Q E rv sub room gd env0 sp
  obtain ⟨ws, G1, ent, hF⟩ := sp
  obtain ⟨c, rfl, hq, L, hp, m, eΛ, hbody⟩ := hΛ d fun z => by rw [z] at hF; exact hF
  have ew : ws = [] := List.eq_nil_of_length_eq_zero ent.len.symm
  subst ew
  obtain ⟨f', c', ef, g1, g2⟩ := rv
  cases ef
  have celN := Inv.celN I
  have same : ∀ b o, isC X.env.cells b = true → s.heap.get? b = some o → G1 b = some (cellF o) ∧ H1 b = some (cellF o) ∧ s1.heap.get? b = some o := fun b o q e => by
    have e1 := ent.floor b _ (cup_in (H := G) q e)
    have e2 := ent.sub b _ e1
    exact ⟨e1, e2, (env0.hok b _ e2).1⟩
  have celT : CelT X.env.cells s1.heap H1 := fun b q => by
    obtain ⟨_, o, v, e, dv⟩ := celN b q
    obtain ⟨_, e2, e3⟩ := same b o q e
    exact ⟨o, v, e2, e3, dv⟩
  have nf : ∀ b, isC X.env.cells b = true → b ∉ frs outer := fun b q hb => by
    obtain ⟨o, _, e, _⟩ := celT b q
    rw [env0.frf b hb] at e
    cases e
  obtain ⟨⟨pm, ctv, hf⟩, _, _⟩ := env0.hok f _ (sub _ _ g1)
  obtain ⟨⟨oc, vs, t, hoc, hdc, hvc⟩, _, _⟩ := env0.hok c' _ (sub _ _ g2)
  -- what is wished, told of the heap without the cells
  let Q2 : VK := fun v H' => (∀ b, isC X.env.cells b = true → H' b = none) → Q v (cup X.env.cells s1.heap H')
  let E2 : XK := fun cls d H' => (∀ b, isC X.env.cells b = true → H' b = none) → E cls d (cup X.env.cells s1.heap H')
  refine codeAny_mono (R := CR (L2.CX X.prog X.w) outer X.prog X.w (strip X.env.cells H1) s1 Q2 E2) ?_ fun r s' h => cr_up celT nf (fun v H' n q => q n) (fun cls d H' n q => q n) h
  have env1 := env_down env0 celT
  refine PySem.W.kla_callFunE room.depth hf rfl L.co L.gen rfl ⟨c', oc, vs, t, rfl, hoc, hdc, by rw [show (PySem.W.kla_fn "<lambda>" c.qual c.params c.body c.scope (cloOf X c.scope) pm (.ref c') ctv).qualname = c.qual from rfl]; exact hvc⟩ ?_
  rw [show bindArgs (PySem.W.kla_fn "<lambda>" c.qual c.params c.body c.scope (cloOf X c.scope) pm (.ref c') ctv) ⟨[], []⟩ = pure [] from by rw [noPar_eq hp]; rfl]
  refine wpAny_pure (wpAny_newFunctionEnv (fun y hy => (L.own y hy).2) (fun y hy => absurd hy (by simp)) (fun hp1 ns sb => ?_) L.kind)
  have old : ∀ b o, s1.heap.get? b = some o → hp1.get? b = some o := fun b o e => sb.extBut b o (Nat.ne_of_lt (Heap.lt_size e)) (Heap.get?_push_of_some _ e)
  have lim : s1.heap.NoLimit := env0.mod.nolimit.keeps fun b o e => (env0.bs b o e).1
  refine ⟨lim.fresh _ sb, ?_⟩
  have eenv : PySem.newEnv c.scope s1.heap.objs.size mainGlobals (cloOf X c.scope) (c.qual ++ ".<locals>.") (some f) (.ref c') none builtinsNs = LamX.lamEnv X c.scope s1.heap.objs.size f c' := by
    rw [hq]
    rfl
  have J : Inv (LamX.lamCx X A outer s1 (strip X.env.cells H1) E2 c.scope f c') [] σ (strip X.env.cells H1) { s1 with heap := hp1, toks := s1.toks + ([] : List (Str × Value)).length } :=
    lam_st I L env1 room.hd (fun b o q e => (same b o q e).2.2) (fun b q => strip_in q) ns old
  have noC : ∀ {b : Addr} {u : HO}, G b = some u → isC X.env.cells b = false := fun {b u} e => celN.no (R.sub b u e)
  have g0 : SubH G (strip X.env.cells G1) := fun b o e => by
    rw [strip_no (noC e)]
    exact ent.floor b o ((cup_no (noC e)).trans e)
  have Rl : Rel X.K X.mg ⟨fun _ => none, fl.T⟩ σ (ρ.map dropW) (strip X.env.cells H1) (strip X.env.cells G1) := by
    refine ⟨by rw [List.length_map]; exact R.len, fun b o e => ?_, fun i w e => ?_, fun i j x y v e1 => ?_, SubH.nothing, tabs_strip celT ent.tabs, fun b o e => ent.ntb b o (strip_some e).2⟩
    · obtain ⟨q, e'⟩ := strip_some e
      rw [strip_no q]
      exact ent.sub b o e'
    · obtain ⟨x, ew, e'⟩ := dropW_get e
      subst ew
      obtain ⟨v, s', r⟩ := R.slot i _ e'
      exact ⟨v, s', RV.mono g0 x v r⟩
    · obtain ⟨z, ez, _⟩ := dropW_get e1
      cases ez
  have rest : ∀ {H' G' : Hp} {ρ' : Rho}, (∀ b, isC X.env.cells b = true → H' b = none) → Rel X.K X.mg ⟨fun _ => none, fl.T⟩ σ ρ' H' G' → Fr [] σ (ρ.map dropW) (strip X.env.cells H1) (strip X.env.cells G1) σ ρ' H' G' →
      ExA X.K X.mg ⟨cup X.env.cells s.heap G, fl.T⟩ [] [] [] H1 G1 (cup X.env.cells s1.heap H') (cup X.env.cells s1.heap G') ∧ SubH G' (cup X.env.cells s1.heap G') := fun {H' G' ρ'} hn R' F' => by
    have gn : ∀ {b : Addr} {u : HO}, G' b = some u → isC X.env.cells b = false := fun {b u} e => by
      cases q : isC X.env.cells b with
      | false => rfl
      | true =>
        have z := R'.sub b u e
        rw [hn b q] at z
        cases z
    refine ⟨⟨fun b o e => ?_, fun b o e => ?_, fun b o e kp g _ => ?_, fun i x e => by simp at e, fun i y e => by simp at e, tabs_cup hn R'.tabs, fun b o e => ?_⟩, fun b o e => by rw [cup_no (gn e)]; exact e⟩
    · cases q : isC X.env.cells b with
      | true =>
        obtain ⟨_, o', _, e1, _⟩ := celN b q
        obtain ⟨e2, _, e3⟩ := same b o' q e1
        rw [e] at e2
        rw [cup_in q e3]
        exact e2.symm
      | false =>
        rw [cup_no q]
        exact F'.grow b o (by rw [strip_no q]; exact e)
    · cases q : isC X.env.cells b with
      | true =>
        obtain ⟨_, o', _, e1, _⟩ := celN b q
        obtain ⟨_, _, e3⟩ := same b o' q e1
        rw [cup_in q e3] at e ⊢
        exact e
      | false =>
        rw [cup_no q] at e ⊢
        exact R'.sub b o e
    · have q : isC X.env.cells b = false := by
        cases q : isC X.env.cells b with
        | false => rfl
        | true =>
          obtain ⟨_, o', _, e1, _⟩ := celN b q
          rw [(same b o' q e1).1] at g
          cases g
      obtain ⟨k1, k2, _⟩ := F'.keep b o (by rw [strip_no q]; exact e) kp (by rw [strip_no q]; exact g) drop_own
      rw [cup_no q, cup_no q]
      exact ⟨k1, k2⟩
    · cases q : isC X.env.cells b with
      | true =>
        obtain ⟨_, o', _, e1, _⟩ := celN b q
        obtain ⟨_, _, e3⟩ := same b o' q e1
        rw [cup_in q e3] at e
        cases e
        exact fun ps z => nomatch z
      | false =>
        rw [cup_no q] at e
        exact R'.ntb b o e
  have go : GoE X.K X.mg ⟨fun cls d _ H' => E2 cls d H', ⟨fun _ => none, fl.T⟩⟩ σ (ρ.map dropW) (strip X.env.cells H1) (strip X.env.cells G1) (m (ρ.map dropW)) Q2 := by
    rw [eΛ] at hF
    cases em : m (ρ.map dropW) with
    | bad => rw [em] at hF; exact hF
    | ok w ρ' =>
      rw [em] at hF
      intro v H' G' R' F' r hn
      obtain ⟨G2, R2, F2, rv2⟩ := keep_res R' F' r
      obtain ⟨ex, g⟩ := rest hn R2 F2
      exact hF v _ _ ex (RV.mono g _ _ rv2) fun _ _ z => nomatch z
    | exc cn fs ρ' =>
      rw [em] at hF
      intro cls od H' G' R' F' rx hn
      obtain ⟨ex, g⟩ := rest hn R' F'
      refine hF cls od _ _ ex ?_
      obtain ⟨C, e1, e2, e3⟩ := rx
      refine ⟨C, e1, e2, e3.imp id fun ⟨dd, xs, e4, e5, e6⟩ => ⟨dd, xs, e4, ?_, fun y x hy => ?_⟩⟩
      · have q : isC X.env.cells dd = false := by
          cases q : isC X.env.cells dd with
          | false => rfl
          | true => rw [hn dd q] at e5; cases e5
        rw [cup_no q]
        exact e5
      · obtain ⟨v, h1, h2⟩ := e6 y x hy
        exact ⟨v, h1, RV.mono g _ _ h2⟩
  show codeAny _ A (.expr c.body (PySem.newEnv c.scope s1.heap.objs.size mainGlobals (cloOf X c.scope) (c.qual ++ ".<locals>.") (some f) (.ref c') none builtinsNs)) _ _
  rw [eenv]
  refine PySem.W.kla_codeExpr (wpAny_mono ((hbody A outer s1 (strip X.env.cells H1) E2 f c' ⟨fun _ => none, fl.T⟩ (room.deeper _) gd).run [] _ σ (strip X.env.cells H1) Q2 J ⟨ρ.map dropW, strip X.env.cells G1, Rl, go⟩) (fun v s' hv => ?_) fun e s' he => he)
  obtain ⟨u, H', J', ru, q⟩ := hv
  exact ⟨u, H', J'.os, J'.bare, J'.base, J'.hok, ru, q⟩
end
end FL
set_option Elab.async false
set_option linter.all false
set_option maxRecDepth 100000
set_option maxHeartbeats 2000000
namespace FL
open PySem PySem.Spec L2
open PyProof.Rows hiding St
theorem tabs_grow {T : List (Addr × Str)} {H : Hp} {P d : Addr} {q : Str} {ps : Array Value} {pos : Pos} (t : LamX.Tabs T H) (hP : H P = some (.tbl ps)) (hd : H d = none) (hm : (P, q) ∈ T) (hu : ∀ p ∈ T, p.1 = P → p.2 = q) :
    LamX.Tabs T (upd (upd H P (.tbl (ps ++ #[rawInt pos.line, rawInt pos.col, .ref d]))) d (LamX.CodeO d q)) := fun p hp => by
  have nPd : P ≠ d := ne_of_none hP hd
  have code : ∀ {c : Addr} {r : Str}, H c = some (LamX.CodeO c r) → upd (upd H P (.tbl (ps ++ #[rawInt pos.line, rawInt pos.col, .ref d]))) d (LamX.CodeO d q) c = some (LamX.CodeO c r) := fun {c r} e => by
    have n1 : c ≠ d := ne_of_none e hd
    have n2 : c ≠ P := fun z => by
      rw [z, hP] at e
      exact LamX.codeO_ne ps (Option.some.inj e).symm
    rw [upd_ne n1, upd_ne n2]
    exact e
  by_cases hb : p.1 = P
  · have hq := hu p hp hb
    obtain ⟨ps', h1, h2, h3⟩ := t (P, q) hm
    have h1' : H P = some (.tbl ps') := h1
    rw [hP] at h1'
    cases h1'
    rw [hb, hq]
    have el : (ps ++ #[rawInt pos.line, rawInt pos.col, .ref d]).toList = ps.toList ++ [rawInt pos.line, rawInt pos.col, .ref d] := by simp
    refine ⟨_, (upd_ne nPd).trans upd_same, by rw [el]; exact PySem.TriplesOk_snoc _ _ _ _ h2, fun at_ cv hc => ?_⟩
    rw [el] at hc
    rcases LamX.among_app _ h2 hc with z | z
    · obtain ⟨c, e1, e2⟩ := h3 at_ cv z
      exact ⟨c, e1, code e2⟩
    · exact ⟨d, z, upd_same⟩
  · obtain ⟨qs, h1, h2, h3⟩ := t p hp
    refine ⟨qs, by rw [upd_ne (ne_of_none h1 hd), upd_ne hb]; exact h1, h2, fun at_ cv hc => ?_⟩
    obtain ⟨c, e1, e2⟩ := h3 at_ cv hc
    exact ⟨c, e1, code e2⟩
section
variable {X : Cx} {pins : List (Addr × Obj)} {σ : St} {H : Hp} {s : Shared}
theorem clo_ok {P : Program} {w : World} {H' : Hp} {h : Heap} {f c' : Addr} {cl : List (Str × Addr)} {c : LamC} {pm ctv : Value} (e : h.get? f = some (PySem.W.kla_obj "<lambda>" c.qual c.params c.body c.scope cl pm c' ctv)) : ObjOk P w H' h f (cloO f cl c c') :=
  ⟨⟨pm, ctv, e⟩, ⟨_, e⟩, fun h1 h2 ⟨a, b, z⟩ st => ⟨a, b, st _ z⟩⟩
theorem lam_mk {T : List (Addr × Str)} {cd P : Addr} {params : Arguments} {body : Expr} {scope : Scope} {pos : Pos} {Ex : Value → Shared → Prop} {Q : Value → Shared → Prop} (I : Inv X pins σ H s) (TB : LamX.TabB X.base X.mg cd P) (hcd : X.env.code = .ref cd)
    (hm : (P, X.env.qual ++ "<lambda>") ∈ T) (hu : ∀ p ∈ T, p.1 = P → p.2 = X.env.qual ++ "<lambda>") (t : LamX.Tabs T H) (nodef : defaultsOf params X.env = ([], [])) (L : LamX.LamS X.env.scope scope)
    (then_ : ∀ (f c' : Addr) (H1 : Hp) (s' : Shared), Inv X pins σ (upd H1 f (cloO f (cloOf X scope) ⟨params, body, scope, X.env.qual ++ "<lambda>"⟩ c')) s' → LamX.ExtN H H1 → LamX.Tabs T H1 → H f = none → H1 f = none → H1 c' = some (LamX.CodeO c' (X.env.qual ++ "<lambda>")) → Q (.ref f) s') :
    wpAny (model X.prog X.w) X.A (eval (.Lambda params body scope pos) X.env) Q Ex s := by
  obtain ⟨ps, hP, ok3, among⟩ := t _ hm
  have hPh : s.heap.get? P = some { cls := .none, data := .fields ps } := I.hok P _ hP
  have bm := TB.bm.keeps I.bk
  have cdh := TB.code.keeps I.bk
  have gl := I.mod.glob.keeps I.bk
  have clo := closure_ok (L.has I.ok)
  refine PySem.W.kla_eval nodef ?_
  cases hc : codeAmong pos ps.toList with
  | some cv =>
    obtain ⟨c', ecv, hco⟩ := among pos cv hc
    subst ecv
    refine PySem.W.kla_makeFunctionHit (P := P) (c := cd) (ps := ps) (mg := X.mg) clo I.ok.glob gl hcd cdh hPh ok3 hc bm fun ctv hp tk old size => ?_
    have nf : H hp.objs.size = none := I.hok.fresh size
    exact then_ _ c' H _ (I.laid (t' := tk) (a := hp.objs.size) (fun b o e => Heap.get?_push_of_some _ (old b o e)) size (clo_ok (c := ⟨params, body, scope, X.env.qual ++ "<lambda>"⟩) (Heap.get?_push_size _ rfl))) (LamX.ExtN.refl H) t nf nf hco
  | none =>
    refine PySem.W.kla_makeFunction (P := P) (c := cd) (ps := ps) (mg := X.mg) clo I.ok.glob gl hcd cdh hPh ok3 hc TB.gP bm fun c' ctv hp tk old ge lt rec tab => ?_
    obtain ⟨c0, oc, vs, tt, ec, hoc, hdata, hname⟩ := rec
    cases ec
    have nc : H c' = none := I.hok.fresh ge
    have size : s.heap.objs.size ≤ hp.objs.size := Nat.le_trans ge (Nat.le_of_lt lt)
    have I0 := LamX.inv_table (t' := tk) (q := X.env.qual ++ "<lambda>") (more := #[rawInt pos.line, rawInt pos.col, .ref c']) (h' := hp) I hP (fun b o n e => old b o n e) tab ge ⟨oc, vs, tt, hoc, hdata, hname⟩
    have ext : LamX.ExtN H (upd (upd H P (.tbl (ps ++ #[rawInt pos.line, rawInt pos.col, .ref c']))) c' (LamX.CodeO c' (X.env.qual ++ "<lambda>"))) := fun b o e n => by
      have n1 : b ≠ c' := ne_of_none e nc
      have n2 : b ≠ P := fun z => by
        rw [z, hP] at e
        exact n ps (Option.some.inj e).symm
      rw [upd_ne n1, upd_ne n2]
      exact e
    have nf : H hp.objs.size = none := I.hok.fresh size
    exact then_ _ c' _ _ (I0.laid (t' := tk) (a := hp.objs.size) (fun b o e => Heap.get?_push_of_some _ e) (Nat.le_refl _) (clo_ok (c := ⟨params, body, scope, X.env.qual ++ "<lambda>"⟩) (Heap.get?_push_size _ rfl))) ext (tabs_grow t hP nc hm hu) nf (I0.hok.fresh (Nat.le_refl _)) upd_same
end
/-- slots whose own objects are kept from now on -/
def freezeL : List Nat → Rho → Rho
  | [], ρ => ρ
  | i :: r, ρ => match ρ[i]? with
    | some (some (.own x)) => freezeL r (ρ.set i (some (.d x)))
    | _ => freezeL r ρ
theorem Rel.freezeL {K : PySem.W.Frag} {mg : Str → Option Value} {fl : Flr} {σ : St} {H : Hp} : ∀ {is : List Nat} {ρ : Rho} {G : Hp}, Rel K mg fl σ ρ H G → ∃ G1, Rel K mg fl σ (FL.freezeL is ρ) H G1 ∧ Fr [] σ ρ H G σ (FL.freezeL is ρ) H G1
  | [], ρ, G, R => ⟨G, R, Fr.refl⟩
  | i :: r, ρ, G, R => by
    unfold FL.freezeL
    split
    · rename_i x e
      obtain ⟨v, G1, _, R1, F1, _⟩ := R.freeze e
      obtain ⟨G2, R2, F2⟩ := Rel.freezeL (is := r) R1
      exact ⟨G2, R2, F1.trans F2⟩
    · exact Rel.freezeL R
def lamM (cl : List (Str × Addr)) (q : Str) (is : List Nat) (params : Arguments) (body : Expr) (scope : Scope) : M W := fun ρ => .ok (.d (.clo (cloFrom cl scope.names []) ⟨params, body, scope, q⟩)) (freezeL is ρ)
theorem pm_lam {X : Cx} {Wx : WG} {cd P : Addr} {is : List Nat} {params : Arguments} {body : Expr} {scope : Scope} {pos : Pos} (TB : LamX.TabB X.base X.mg cd P) (hcd : X.env.code = .ref cd) (hm : (P, X.env.qual ++ "<lambda>") ∈ Wx.fl.T)
    (hu : ∀ p ∈ Wx.fl.T, p.1 = P → p.2 = X.env.qual ++ "<lambda>") (hp : noPar params = true) (L : LamX.LamS X.env.scope scope) : PM X Wx (.Lambda params body scope pos) (lamM X.env.cells (X.env.qual ++ "<lambda>") is params body scope) := by
  refine ⟨fun pins s σ H Q I h => ?_⟩
  obtain ⟨ρ, G0, R0, go⟩ := h
  obtain ⟨G, R, F0⟩ := Rel.freezeL (is := is) R0
  refine lam_mk I TB hcd hm hu R.tabs (by rw [noPar_eq hp]; rfl) L fun f c' H1 s' I1 ext t1 hf0 hf hco => ⟨.ref f, _, I1, rfl, ?_⟩
  have ncf : c' ≠ f := ne_of_none hco hf
  have old : ∀ b o, H b = some o → NT o → b ≠ f ∧ H1 b = some o := fun b o e n => ⟨ne_of_none e hf0, ext b o e n⟩
  let G2 : Hp := upd (upd G c' (LamX.CodeO c' (X.env.qual ++ "<lambda>"))) f (cloO f (cloOf X scope) ⟨params, body, scope, X.env.qual ++ "<lambda>"⟩ c')
  have g2c : G2 c' = some (LamX.CodeO c' (X.env.qual ++ "<lambda>")) := (upd_ne ncf).trans upd_same
  have grow : SubH G G2 := fun b o e => by
    obtain ⟨n1, e1⟩ := old b o (R.sub b o e) (R.ntb b o e)
    by_cases hb : b = c'
    · rw [hb, hco] at e1
      rw [hb, ← e1]
      exact g2c
    · exact (upd_ne n1).trans ((upd_ne hb).trans e)
  have ownN : ∀ {a : Addr} {x : D}, RO X.K X.mg H G a x → G a = none → upd H1 f (cloO f (cloOf X scope) ⟨params, body, scope, X.env.qual ++ "<lambda>"⟩ c') a = H a ∧ G2 a = none := fun {a x} ro ga => by
    obtain ⟨o, ho, _, hld⟩ := ro.there
    obtain ⟨n1, e1⟩ := old a o ho hld.nt
    have n2 : a ≠ c' := fun z => by
      rw [z, hco] at e1
      cases e1
      exact hld
    exact ⟨(upd_ne n1).trans (e1.trans ho.symm), (upd_ne n1).trans ((upd_ne n2).trans ga)⟩
  refine go _ _ G2 ⟨R.len, fun b o e => ?_, fun i w hw => ?_, R.dis, R.floor.trans grow, tabs_upd (fun u e => by rw [hf] at e; cases e) t1, fun b o e => ?_⟩ (F0.trans ⟨grow, fun b o e kp g n => ?_, fun _ hj => absurd hj (by simp), rfl⟩) ⟨⟨f, c', rfl, upd_same, g2c⟩, fun _ _ z => nomatch z⟩
  · by_cases hb : b = f
    · rw [hb] at e ⊢
      rw [upd_same]
      rw [show G2 f = _ from upd_same] at e
      exact e
    · rw [upd_ne hb]
      have e' : upd G c' (LamX.CodeO c' (X.env.qual ++ "<lambda>")) b = some o := (upd_ne hb).symm.trans e
      by_cases hb2 : b = c'
      · rw [hb2, upd_same] at e'
        rw [hb2, hco, e']
      · rw [upd_ne hb2] at e'
        exact (old b o (R.sub b o e') (R.ntb b o e')).2
  · obtain ⟨v, sl, q⟩ := R.slot i w hw
    refine ⟨v, sl, q.mono grow fun x a e1 e2 => ?_⟩
    subst e1
    obtain ⟨a', ea, ga, ro⟩ := q
    rw [e2] at ea
    cases ea
    exact ownN ro ga
  · by_cases hb : b = f
    · rw [hb, show G2 f = _ from upd_same] at e
      cases e
      exact fun ps z => nomatch (show HO.ext _ = HO.tbl _ from z)
    · have e' : upd G c' (LamX.CodeO c' (X.env.qual ++ "<lambda>")) b = some o := (upd_ne hb).symm.trans e
      by_cases hb2 : b = c'
      · rw [hb2, upd_same] at e'
        cases e'
        exact fun ps z => nomatch (show HO.ext _ = HO.tbl _ from z)
      · rw [upd_ne hb2] at e'
        exact R.ntb b o e'
  · obtain ⟨n1, e1⟩ := old b o e kp.nt
    have n2 : b ≠ c' := fun z => by
      rw [z, hco] at e1
      cases e1
      exact kp
    exact ⟨(upd_ne n1).trans e1, (upd_ne n1).trans ((upd_ne n2).trans g), n⟩
section
variable {K : PySem.W.Frag} {mg : Str → Option Value} {cl : List (Str × Addr)} {G : Hp}
theorem strip_at (c : ∀ b, isC cl b = true → ∃ o, G b = some (cellF o)) {b : Addr} {u : HO} (e : G b = some u) (n : ∀ o, u ≠ cellF o) : strip cl G b = some u := by
  cases q : isC cl b with
  | false => rw [strip_no q]; exact e
  | true =>
    obtain ⟨o, e'⟩ := c b q
    rw [e] at e'
    exact absurd (Option.some.inj e') (n o)
theorem sqT_strip (c : ∀ b, isC cl b = true → ∃ o, G b = some (cellF o)) {a : Addr} {xs : List V} (q : SqT K G a xs) : SqT K (strip cl G) a xs := by
  rcases q with (q | ⟨o, q⟩) | q
  · exact .inl (.inl (strip_at c q fun o z => nomatch z))
  · exact .inl (.inr ⟨o, strip_at c q (fun o z => nomatch z)⟩)
  · exact .inr q
theorem sqL_strip (c : ∀ b, isC cl b = true → ∃ o, G b = some (cellF o)) {a : Addr} {xs : List V} (q : SqL K G a xs) : SqL K (strip cl G) a xs := by
  rcases q with (q | ⟨o, q⟩) | q
  · exact .inl (.inl (strip_at c q fun o z => nomatch z))
  · exact .inl (.inr ⟨o, strip_at c q (fun o z => nomatch z)⟩)
  · exact .inr q
mutual
theorem RV.strip (c : ∀ b, isC cl b = true → ∃ o, G b = some (cellF o)) : ∀ (d : D) (v : V), RV K mg G d v → RV K mg (strip cl G) d v
  | .non, _, r => r
  | .bl _, _, r => r
  | .int _, _, r => r
  | .str _, _, r => r
  | .ty _, _, r => r
  | .tup ds, _, ⟨a, xs, e, q, r⟩ => ⟨a, xs, e, sqT_strip c q, RVs.strip c ds xs r⟩
  | .lst ds, _, ⟨a, xs, e, q, r⟩ => ⟨a, xs, e, strip_at c q (fun o z => nomatch z), RVs.strip c ds xs r⟩
  | .dct kvs, _, ⟨a, ks, e, q, r⟩ => ⟨a, ks, e, strip_at c q (fun o z => nomatch z), RKs.strip c kvs ks r⟩
  | .obj _ fs, _, ⟨a, C, dx, vs, e, m, q, q2, r⟩ => ⟨a, C, dx, vs, e, m, strip_at c q (fun o z => nomatch z), strip_at c q2 (fun o z => nomatch z), RFs.strip c fs vs r⟩
  | .fn _, _, r => r
  | .scr _, _, ⟨a, e, q⟩ => ⟨a, e, sqL_strip c q⟩
  | .ldc kvs, _, ⟨a, o, ks, e, q, r⟩ => ⟨a, o, ks, e, strip_at c q (fun _ z => nomatch z), RKs.strip c kvs ks r⟩
  | .clo _ _, _, ⟨f, c', e, q, q2⟩ => ⟨f, c', e, strip_at c q (fun o z => nomatch (show HO.ext _ = HO.frz _ _ from z)), strip_at c q2 (fun o z => nomatch (show HO.ext _ = HO.frz _ _ from z))⟩
theorem RVs.strip (c : ∀ b, isC cl b = true → ∃ o, G b = some (cellF o)) : ∀ (ds : List D) (xs : List V), RVs K mg G ds xs → RVs K mg (strip cl G) ds xs
  | [], _, r => r
  | d :: ds, _, ⟨y, ys, e, r, t⟩ => ⟨y, ys, e, RV.strip c d y r, RVs.strip c ds ys t⟩
theorem RKs.strip (c : ∀ b, isC cl b = true → ∃ o, G b = some (cellF o)) : ∀ (ds : List (Key × D)) (xs : List (Key × V)), RKs K mg G ds xs → RKs K mg (strip cl G) ds xs
  | [], _, r => r
  | (_, d) :: ds, _, ⟨y, ys, e, r, t⟩ => ⟨y, ys, e, RV.strip c d y r, RKs.strip c ds ys t⟩
theorem RFs.strip (c : ∀ b, isC cl b = true → ∃ o, G b = some (cellF o)) : ∀ (ds : List (Str × D)) (xs : List (Str × V)), RFs K mg G ds xs → RFs K mg (strip cl G) ds xs
  | [], _, r => r
  | (_, d) :: ds, _, ⟨y, ys, e, r, t⟩ => ⟨y, ys, e, RV.strip c d y r, RFs.strip c ds ys t⟩
end
theorem RO.strip {H : Hp} {a : Addr} {y : D} (c : ∀ b, isC cl b = true → ∃ o, G b = some (cellF o)) (cH : ∀ b, isC cl b = true → ∃ o, H b = some (cellF o)) (r : RO K mg H G a y) : RO K mg (strip cl H) (strip cl G) a y := by
  cases y with
  | lst ds => obtain ⟨xs, h1, h2⟩ := r; exact ⟨xs, strip_at cH h1 (fun o z => nomatch z), RVs.strip c ds xs h2⟩
  | dct kvs => obtain ⟨xs, h1, h2⟩ := r; exact ⟨xs, strip_at cH h1 (fun o z => nomatch z), RKs.strip c kvs xs h2⟩
  | _ => exact r.elim
theorem strip_none {b : Addr} (g : G b = none) : strip cl G b = none := by
  cases q : isC cl b with
  | true => exact strip_in q
  | false => rw [strip_no q]; exact g
theorem RW.strip {H : Hp} {v : V} {w : W} (c : ∀ b, isC cl b = true → ∃ o, G b = some (cellF o)) (cH : ∀ b, isC cl b = true → ∃ o, H b = some (cellF o)) (r : RW K mg H G v w) : RW K mg (strip cl H) (strip cl G) v w := by
  cases w with
  | d x => exact RV.strip c x v r
  | own x =>
    obtain ⟨a, e, g, ro⟩ := r
    exact ⟨a, e, strip_none g, RO.strip c cH ro⟩
end
def callL (F : (D → FR) → FnSem) (lam : Rho → D → FR) (ms : M (List A)) : M W := fun ρ => (ms ρ).bind fun as ρ => match argsOf ρ as with
  | some ws => if onceB (refsOf as ws) = true then
      match F (lam ρ) ws with
      | .ok w outs => .ok w (setOuts as outs ρ)
      | .exc c fs outs => .exc c fs (setOuts as outs ρ)
      | .bad => .bad
    else .bad
  | none => .bad
section
variable {X : Cx} {Wx : WG} {k : Nat} {f : Addr} {fd : FuncData} {ps : List Str} {F : (D → FR) → FnSem} {lam : Rho → D → FR} {x : Str} {p pos : Pos} {e : Expr} {es : List Expr} {ms : M (List A)}
theorem cel_base {pins : List (Addr × Obj)} {σ : St} {H : Hp} {s : Shared} (I : Inv X pins σ H s) (hfn : ∀ x, X.fn x = true) : (∀ b, isC X.env.cells b = true → X.base.get? b = none) ∧ ∀ b ∈ frs X.stack, isC X.env.cells b = false := by
  refine ⟨fun b q => ?_, fun b hb => ?_⟩
  · obtain ⟨y, e⟩ := isC_look q
    exact Heap.get?_none_of_le (Nat.le_trans I.ok.bsz (I.ok.cab y b (hfn y) e))
  · cases q : isC X.env.cells b with
    | false => rfl
    | true =>
      exfalso
      obtain ⟨y, e⟩ := isC_look q
      rcases List.mem_cons.mp (I.stkSub b hb) with z | z
      · exact I.cne y b e z
      · obtain ⟨_, o, e2, _⟩ := I.ok.funs.mem z
        exact absurd (Heap.lt_size e2) (Nat.not_lt.mpr (I.ok.cab y b (hfn y) e))
theorem run_fnL {pins : List (Addr × Obj)} {σ : St} {ρ : Rho} {H G : Hp} {s : Shared} {Q : VK} {us : List Value} {vs : List V} {as : List A} (FG : FnL X.prog X.w X.K X.mg X.base k f fd ps F) (hfn : ∀ x, X.fn x = true)
    (lv : ∀ {pins σ H s ρ G}, Inv X pins σ H s → Rel X.K X.mg Wx.fl σ ρ H G → LamVs X.prog X.w X.K X.mg X.base ⟨cup X.env.cells s.heap G, Wx.fl.T⟩ (lam ρ)) (hr : Room k X.A) (hgd : X.A.guards = some []) (hb : Binds X.K fd ps []) (tk : Takes X Wx.w)
    (I : Inv X pins σ H s) (r : Vals vs us) (R : Rel X.K X.mg Wx.fl σ ρ H G) (ra : RAs X.K X.mg σ G vs as) (h : GoE X.K X.mg Wx σ ρ H G (match argsOf ρ as with
      | some ws => if onceB (refsOf as ws) = true then
          match F (lam ρ) ws with
          | .ok w outs => .ok w (setOuts as outs ρ)
          | .exc c fs outs => .exc c fs (setOuts as outs ρ)
          | .bad => .bad
        else .bad
      | none => .bad) Q) : wpAny (model X.prog X.w) X.A (call (.ref f) us) (EP X pins σ Q) X.xe s := by
  obtain ⟨ws, ent, hF⟩ := call_spG R ra h
  have hl : us.length = ps.length := by
    rw [← r.length, ent.len]
    exact FG.arity s.heap.objs.size (lam ρ) ws fun z => by
      rw [show F (lam ρ) ws = FR.bad from z] at hF
      exact hF
  have bt := hb s us I.kIn (by rw [List.append_nil]; exact hl)
  rw [List.append_nil] at bt
  have celN := Inv.celN I
  obtain ⟨nb, nf⟩ := cel_base I hfn
  have env := env_up I.env0 celN nb nf
  have noH : ∀ {b : Addr} {u : HO}, H b = some u → cup X.env.cells s.heap H b = some u := fun e => (cup_no (celN.no e)).trans e
  have noG : ∀ {b : Addr} {u : HO}, G b = some u → cup X.env.cells s.heap G b = some u := fun e => (cup_no (celN.no (R.sub _ _ e))).trans e
  have gG : SubH G (cup X.env.cells s.heap G) := fun b o e => noG e
  have ent' : EntA X.K X.mg ⟨cup X.env.cells s.heap G, Wx.fl.T⟩ vs ws (cup X.env.cells s.heap H) (cup X.env.cells s.heap G) := by
    refine ⟨ent.len, fun b o e => ?_, fun i w hw => ?_, ent.dis, SubH.refl, tabs_cup (fun b q => (celN b q).1) ent.tabs, fun b o e => ?_⟩
    · cases q : isC X.env.cells b with
      | true =>
        obtain ⟨_, o', _, e1, _⟩ := celN b q
        rw [cup_in q e1] at e ⊢
        exact e
      | false =>
        rw [cup_no q] at e ⊢
        exact R.sub b o e
    · obtain ⟨v, h1, h2⟩ := ent.val i w hw
      refine ⟨v, h1, h2.mono gG fun x a e1 e2 => ?_⟩
      subst e1
      obtain ⟨a', ea, ga, ro⟩ := h2
      rw [e2] at ea
      cases ea
      obtain ⟨o, ho, _⟩ := ro.there
      exact ⟨(noH ho).trans ho.symm, (cup_no (celN.no ho)).trans ga⟩
    · cases q : isC X.env.cells b with
      | true =>
        obtain ⟨_, o', _, e1, _⟩ := celN b q
        rw [cup_in q e1] at e
        cases e
        exact fun ps z => nomatch z
      | false =>
        rw [cup_no q] at e
        exact R.ntb b o e
  have back : ∀ {outs : List W} {H' G' : Hp}, ExA X.K X.mg ⟨cup X.env.cells s.heap G, Wx.fl.T⟩ vs ws outs (cup X.env.cells s.heap H) (cup X.env.cells s.heap G) H' G' →
      ExA X.K X.mg Wx.fl vs ws outs H G (strip X.env.cells H') (strip X.env.cells G') ∧ (∀ b, isC X.env.cells b = true → ∃ o, G' b = some (cellF o)) ∧ ∀ b, isC X.env.cells b = true → ∃ o, H' b = some (cellF o) := fun {outs H' G'} ex => by
    have cG : ∀ b, isC X.env.cells b = true → ∃ o, G' b = some (cellF o) := fun b q => by
      obtain ⟨_, o', _, e1, _⟩ := celN b q
      exact ⟨o', ex.grow b _ (cup_in q e1)⟩
    have cH : ∀ b, isC X.env.cells b = true → ∃ o, H' b = some (cellF o) := fun b q => by
      obtain ⟨o, e⟩ := cG b q
      exact ⟨o, ex.sub b _ e⟩
    have cT : CelT X.env.cells s.heap H' := fun b q => by
      obtain ⟨_, o', v, e1, d⟩ := celN b q
      exact ⟨o', v, ex.sub b _ (ex.grow b _ (cup_in q e1)), e1, d⟩
    refine ⟨⟨fun b o e => ?_, fun b o e => ?_, fun b o e kp g n => ?_, fun i x hx => ?_, ex.shape, tabs_strip cT ex.tabs, fun b o e => ex.ntb b o (strip_some e).2⟩, cG, cH⟩
    · rw [strip_no (celN.no (R.sub b o e))]
      exact ex.grow b o (noG e)
    · obtain ⟨q, e'⟩ := strip_some e
      rw [strip_no q]
      exact ex.sub b o e'
    · have q := celN.no e
      obtain ⟨k1, k2⟩ := ex.keep b o (noH e) kp ((cup_no q).trans g) n
      exact ⟨(strip_no q).trans k1, strip_none k2⟩
    · obtain ⟨y, a, h1, h2, h3, h4⟩ := ex.out i x hx
      exact ⟨y, a, h1, h2, strip_none h3, RO.strip cG cH h4⟩
  have sp : spF X.K X.mg ⟨cup X.env.cells s.heap G, Wx.fl.T⟩ (F (lam ρ)) vs (cup X.env.cells s.heap H) (fun v H' => Q v (strip X.env.cells H')) fun cls od H' => Wx.w cls od σ (strip X.env.cells H') := by
    refine ⟨ws, _, ent', ?_⟩
    cases eF : F (lam ρ) ws with
    | bad => rw [eF] at hF; exact hF
    | ok w outs =>
      rw [eF] at hF
      intro v H' G' ex rw' nw
      obtain ⟨ex', cG, cH⟩ := back ex
      exact hF v _ _ ex' (RW.strip cG cH rw') fun x a e1 e2 o ho => nw x a e1 e2 o (noH ho)
    | exc cn fs outs =>
      rw [eF] at hF
      intro cls od H' G' ex rx
      obtain ⟨ex', cG, cH⟩ := back ex
      refine hF cls od _ _ ex' ?_
      obtain ⟨C, e1, e2, e3⟩ := rx
      refine ⟨C, e1, e2, e3.imp id fun ⟨dd, xs, e4, e5, e6⟩ => ⟨dd, xs, e4, strip_at cH e5 (fun o z => nomatch z), fun y x hy => ?_⟩⟩
      obtain ⟨v, h1, h2⟩ := e6 y x hy
      exact ⟨v, h1, RV.strip cG _ _ h2⟩
  have rc := codeAny_mono (FG.run X.A X.stack s (cup X.env.cells s.heap H) ⟨us, []⟩ us vs _ _ ⟨cup X.env.cells s.heap G, Wx.fl.T⟩ (lam ρ) True.intro hr hgd (lv I R) env bt r sp)
    fun res s' q => cr_down (Q' := Q) (E' := fun cls od H' => Wx.w cls od σ H') celN (fun v H' z => z) (fun cls d H' z => z) q
  refine wpAny_call (codeAny_mono rc fun res s' q => ?_)
  match res, q with
  | .error e, q => exact tk e s' (XE.of_call I (fun _ _ _ z => z) q)
  | .ok (.ret u), q => exact I.after q
  | .ok .next, q => exact False.elim q
  | .ok .brk, q => exact False.elim q
  | .ok .cont, q => exact False.elim q
theorem pm_callL (FG : FnL X.prog X.w X.K X.mg X.base k f fd ps F) (hfn : ∀ x, X.fn x = true)
    (lv : ∀ {pins σ H s ρ G}, Inv X pins σ H s → Rel X.K X.mg Wx.fl σ ρ H G → LamVs X.prog X.w X.K X.mg X.base ⟨cup X.env.cells s.heap G, Wx.fl.T⟩ (lam ρ)) (hr : Room k X.A) (hgd : X.A.guards = some []) (hg : Gl X x) (hm : X.mg x = some (.ref f)) (hk : PySem.W.keepIn X.K (.ref f) = true)
    (hb : Binds X.K fd ps []) (tk : Takes X Wx.w) (ha : PMAs X Wx (e :: es) ms) (hdb : (x == ("__debug__" : Str)) = false) (he : starEach (e :: es) X.env = (false, eval e X.env) :: starEach es X.env) (hpl : (backTo pos (starEach es X.env)).any (·.1) = false) :
    PM X Wx (.Call (.Name x p) (e :: es) [] pos) (callL F lam ms) := by
  refine ⟨fun pins s σ H Q I h => wpAny_Call_Name_kw (ld_glob I hg hm ?_ hdb)⟩
  obtain ⟨ρ, G, R, h⟩ := h
  exact PySem.W.callWith_K (h₀ := X.base) I.ok.mod.kin hk (thn (ha.run pos pins s σ H _ I (tAs_bind R h)) fun us s1 ⟨vs, H1, I1, r, as, ρ1, G1, R1, ra, F1, g⟩ => ⟨I1.kIn, run_fnL FG hfn lv hr hgd hb tk I1 r R1 ra g⟩) he hpl
end
def actM (Λ : D → FR) (i : Nat) : M W := fun ρ => match ρ[i]? with
  | some (some (.d (.clo cl c))) => match Λ (.clo cl c) with
    | .ok (.d x) _ => .ok (.d x) ρ
    | .exc c fs _ => .exc c fs ρ
    | _ => .bad
  | _ => .bad
theorem pm_act {X : Cx} {Wx : WG} {Λ : D → FR} {i : Nat} {a : Str} {p1 p2 : Pos} (lv : LamVs X.prog X.w X.K X.mg X.base Wx.fl Λ) (hr : Room KL X.A) (hgd : X.A.guards = some []) (tk : Takes X Wx.w) (hN : X.N[i]? = some a) (hv : Vis X.env.scope a) (hd : (a == ("__debug__" : Str)) = false) (hcd : (a == ("__classdict__" : Str)) = false) :
    PM X Wx (.Call (.Name a p1) [] [] p2) (actM Λ i) := by
  refine ⟨fun pins s σ H Q I h => ?_⟩
  obtain ⟨ρ, G, R, h⟩ := h
  unfold actM at h
  split at h
  · rename_i cl c e
    obtain ⟨v, es, f, c', ev, g1, g2⟩ := R.slot i _ e
    subst ev
    refine wpAny_Call_Name_kw (thn ((pe_var (pos := p1) (i := i) hN hv hd hcd).run pins s σ H (fun v H1 => v = .ref f ∧ H1 = H) I ⟨.ref f, es, rfl, rfl⟩) fun u s1 ⟨v, H1, I1, r1, ev, eH⟩ => ?_)
    subst ev
    rw [eH] at I1
    obtain rfl : u = Value.ref f := r1
    obtain ⟨⟨pm, ctv, hf⟩, _, _⟩ := I1.hok f _ (R.sub _ _ g1)
    refine PySem.W.callWith_F0 ⟨_, _, _, _, hf⟩ ?_
    have ent : EntA X.K X.mg Wx.fl [] [] H G := ⟨rfl, R.sub, fun i w z => by simp at z, fun i j x y v z => by simp at z, R.floor, R.tabs, R.ntb⟩
    have rel : ∀ {outs : List W} {H' G' : Hp}, ExA X.K X.mg Wx.fl [] [] outs H G H' G' → Rel X.K X.mg Wx.fl σ ρ H' G' ∧ Fr [] σ ρ H G σ ρ H' G' := fun {outs H' G'} ex => by
      have no : ∀ b, ¬ OwnA [] [] b := fun b ⟨i, x, z, _⟩ => by simp at z
      refine ⟨⟨R.len, ex.sub, fun j w hw => ?_, R.dis, R.floor.trans ex.grow, ex.tabs, ex.ntb⟩, ⟨ex.grow, fun b o hb kp hg hn => ?_, fun _ h => absurd h (by simp), rfl⟩⟩
      · obtain ⟨v, sv, q⟩ := R.slot j w hw
        refine ⟨v, sv, q.mono ex.grow fun x b e1 e2 => ?_⟩
        subst e1
        obtain ⟨b', eb, gb, ro⟩ := q
        rw [e2] at eb
        cases eb
        obtain ⟨o, ho, _, hld⟩ := ro.there
        obtain ⟨k1, k2⟩ := ex.keep b o ho hld.kp gb (no b)
        exact ⟨k1.trans ho.symm, k2⟩
      · obtain ⟨k1, k2⟩ := ex.keep b o hb kp hg (no b)
        exact ⟨k1, k2, hn⟩
    have sp : spF X.K X.mg Wx.fl (fun _ => Λ (.clo cl c)) [] H Q fun cls od H' => Wx.w cls od σ H' := by
      refine ⟨[], G, ent, ?_⟩
      cases eF : Λ (.clo cl c) with
      | bad => rw [eF] at h; exact h
      | ok w outs =>
        rw [eF] at h
        cases w with
        | own x => exact h.elim
        | d x =>
          intro v H' G' ex rv _
          obtain ⟨R', F'⟩ := rel ex
          exact h v H' G' R' F' ⟨rv, fun _ _ z => nomatch z⟩
      | exc cn fs outs =>
        rw [eF] at h
        intro cls od H' G' ex rx
        obtain ⟨R', F'⟩ := rel ex
        exact h cls od H' G' R' F' rx
    refine wpAny_call (codeAny_mono (lv (.clo cl c) f G X.A X.stack s1 H Q (fun cls od H' => Wx.w cls od σ H') ⟨f, c', rfl, g1, g2⟩ R.sub hr hgd I1.env0 sp) fun res s' q => ?_)
    match res, q with
    | .error e, q => exact tk e s' (XE.of_call I1 (fun _ _ _ z => z) q)
    | .ok (.ret u), q => exact I1.after q
    | .ok .next, q => exact False.elim q
    | .ok .brk, q => exact False.elim q
    | .ok .cont, q => exact False.elim q
  · exact h.elim
end FL
set_option Elab.async false
set_option linter.all false
set_option maxRecDepth 100000
set_option maxHeartbeats 2000000
namespace FL
open PySem PySem.Spec L2
open PyProof.Rows hiding St
theorem pe_hinit {X : Cx} {B : Addr} {e : Expr} {es : List Expr} {ta : TA} {p1 p2 pos : Pos} (hline : (p2.endLine == pos.line) = true) (few : methodCallForm ((e :: es).length + ([] : List Keyword).length) (backTo pos (starEach (e :: es) X.env)) (backToKw pos (keywordEach [] X.env)) = true) (hg : Gl X "HalfError") (hm : X.mg "HalfError" = some (.ref B)) (own : PySem.W.specialIn X.K (.ref B) "__getattribute__" = some (some (.builtin "type.__getattribute__")))
    (rd : PySem.W.readsIn X.K B (.type "type") = true) (fc : PySem.W.findCls X.K (.ref B) (.type "type") "__init__" = some (.val (.builtin "ValueError.__init__"))) (ha : PA X (e :: es) ta) (tr : starEach (e :: es) X.env = (false, eval e X.env) :: starEach es X.env)
    (pl' : (backTo pos (starEach es X.env)).any (·.1) = false) :
    PE X (.Call (.Attribute (.Name "HalfError" p1) "__init__" p2) (e :: es) [] pos) (tVeI X.K ta) := by
  have hc : eval (.Call (.Attribute (.Name "HalfError" p1) "__init__" p2) (e :: es) [] pos) X.env = (do
      let v ← eval (.Name "HalfError" p1) X.env
      standAt p2.atName
      let (g, fst) ← holding [v] (getMethod v "__init__" (plainOf (.Name "HalfError" p1) X.env))
      callWith pos g fst (backTo pos (starEach (e :: es) X.env)) (backToKw pos (keywordEach [] X.env))) := by
    have e1 : eval (.Call (.Attribute (.Name "HalfError" p1) "__init__" p2) (e :: es) [] pos) X.env = (do
      let v ← eval (.Name "HalfError" p1) X.env
      standAt p2.atName
      methodCall (.Name "HalfError" p1) "__init__" p2 pos X.env v ((e :: es).length + ([] : List Keyword).length) (backTo pos (starEach (e :: es) X.env)) (backToKw pos (keywordEach [] X.env))) := by
      rw [arm_eval_Call]
      rfl
    rw [e1]
    simp only [mcall_line few hline]
  refine ⟨fun pins s σ H Q I h => PySem.W.methodCall_KW (ld_glob I hg hm ?_ (by decide)) hc⟩
  refine PySem.W.method_cls I.kIn own (PySem.W.cls_value I.kIn rd fc (by decide +kernel) ?_)
  show wpAny _ _ (callWith pos (Value.builtin "ValueError.__init__") [] (backTo pos (starEach (e :: es) X.env)) []) _ _ _
  refine PyProof.Rows.callWith_method1 (thn (ha.run pos pins _ σ H _ (I.tok _) h) fun us s1 ⟨vs, H1, I1, r1, a, C, ws, ev, small, T, ea, q⟩ => ?_) tr pl'
  subst ev
  cases r1 with
  | @cons _ u _ us' ru rus =>
    have eu : u = Value.ref a := ru
    subst eu
    exact oinit_ok T I1 ea (by rw [← Paired.length rus, sizeLine_eq]; omega) fun s' J => ⟨.non, H1, J, rfl, q⟩
def okNm (x : Str) : Bool := !(x == ("__debug__" : Str)) && !(x == ("__classdict__" : Str))
theorem okName_ok' {x : Str} (h : okNm x = true) : (x == ("__debug__" : Str)) = false ∧ (x == ("__classdict__" : Str)) = false := by
  unfold okNm at h
  rw [Bool.and_eq_true] at h
  exact ⟨by simpa using h.1, by simpa using h.2⟩
def initAs : List Str → List Stmt → Bool
  | [], [] => true
  | f :: fs, .Assign [.Attribute (.Name s _) g _] (.Name y _) _ :: r => s == ("self" : Str) && g == f && y == f && initAs fs r
  | _, _ => false
def initB (flds : List Str) : List Stmt → Bool
  | .Expr (.Call (.Attribute (.Name h _) m q1) [.Name s _, .Constant (.str _) _ _] [] q2) _ :: r => (q1.endLine == q2.line) && h == ("HalfError" : Str) && m == ("__init__" : Str) && s == ("self" : Str) && initAs flds r
  | _ => false
def tAss (K : PySem.W.Frag) : Nat → List Str → TS
  | _, [] => tNext
  | j, f :: r => tSeq (tOst K f (tVar 0) (tVar j)) (tAss K (j + 1) r)
section
variable {X : Cx}
theorem ass_read (h0 : X.N[0]? = some ("self" : Str)) (vis : ∀ (i : Nat) (x : Str), X.N[i]? = some x → Vis X.env.scope x) : ∀ {flds : List Str} {j : Nat} {b : List Stmt}, initAs flds b = true → (∀ (i : Nat) (f : Str), flds[i]? = some f → X.N[j + i]? = some f ∧ (f == ("__debug__" : Str)) = false ∧ (f == ("__classdict__" : Str)) = false) → PSs X b (tAss X.K j flds)
  | [], j, [], _, _ => pss_nil
  | [], j, _ :: _, h, _ => by cases h
  | f :: fs, j, [], h, _ => by cases h
  | f :: fs, j, st :: r, h, hN => by
    unfold initAs at h
    split at h
    · rename_i e1 e2
      cases e1
    · rename_i f' fs' s p g p2 y p3 p4 r' e1 e2
      cases e1
      cases e2
      simp only [Bool.and_eq_true] at h
      obtain ⟨⟨⟨h1, h2⟩, h3⟩, h4⟩ := h
      have es := eq_of_beq h1
      have eg := eq_of_beq h2
      have ey := eq_of_beq h3
      subst es eg ey
      obtain ⟨a1, a2, a3⟩ := hN 0 _ rfl
      exact pss_cons (ps_ost (pe_var h0 (vis 0 _ h0)) (pe_var (by simpa using a1) (vis _ _ a1) a2 a3)) (ass_read h0 vis h4 fun i f hf => by
        have z := hN (i + 1) f (by simpa using hf)
        rw [show j + (i + 1) = j + 1 + i from by omega] at z
        exact z)
    · cases h
/-- the stores behind the first one -/
theorem ass_go {K : PySem.W.Frag} {σ : St} {a C dx : Addr} {En : Ends} (T : OexC K C) (s0 : σ[0]? = some (some (.ref a))) (hne : dx ≠ a) : ∀ {r : List Str} {ys : List V} {j : Nat} {done : List (Str × V)} {H : Hp}, ys.length = r.length → (∀ (i : Nat) (y : V), ys[i]? = some y → σ[j + i]? = some (some y)) →
    (∀ f ∈ r, PySem.W.findIn K (.ref C) f = some none) → done.length + r.length ≤ 900 → H a = some (exo a C (some dx)) → H dx = some (exd dx done) → En.nx σ (upd H dx (exd dx ((r.zip ys).reverse ++ done))) → tAss K j r En σ H
  | [], [], j, done, H, _, _, _, _, _, hd, q => by
    have e : upd H dx (exd dx done) = H := by
      funext b
      by_cases hb : b = dx
      · rw [hb, upd_same, hd]
      · rw [upd_ne hb]
    have q' : En.nx σ (upd H dx (exd dx done)) := q
    rw [e] at q'
    exact q'
  | f :: r, y :: ys, j, done, H, hl, hs, hf, hn, ha, hd, q => by
    refine ⟨y, by simpa using hs 0 y rfl, .ref a, s0, a, C, rfl, T, hf f List.mem_cons_self, .inr ⟨dx, done, ha, hd, by simp at hn; omega, ?_⟩⟩
    refine ass_go (done := (f, y) :: done) T s0 hne (by simpa using hl) (fun i z hz => ?_) (fun g hg => hf g (List.mem_cons_of_mem _ hg)) (by simp at hn ⊢; omega) ((upd_ne (Ne.symm hne)).trans ha) upd_same ?_
    · have z' := hs (i + 1) z (by simpa using hz)
      rwa [show j + (i + 1) = j + 1 + i from by omega] at z'
    · show En.nx σ _
      rw [upd_upd]
      have e : ((f, y) :: r.zip ys).reverse ++ done = (r.zip ys).reverse ++ (f, y) :: done := by simp
      rw [← e]
      exact q
  | [], _ :: _, _, _, _, hl, _, _, _, _, _, _ => by simp at hl
  | _ :: _, [], _, _, _, hl, _, _, _, _, _, _ => by simp at hl
end
/-- what an error's __init__ promises -/
def spI (C : Addr) (flds : List Str) : Sp := fun vs H Q _ => ∃ (a : Addr) (ys : List V), vs = .ref a :: ys ∧ ys.length = flds.length ∧ H a = some (exo a C none) ∧
  ∀ dx, H dx = none → dx ≠ a → Q .non (upd (upd H a (exo a C (some dx))) dx (exd dx (flds.zip ys).reverse))
section
variable {P : Program} {w : World} {K : PySem.W.Frag} {mg : Str → Option Value} {base : Heap}
theorem init_ok {qual : Str} {st : Stmt} {f B C : Addr} {fd : FuncData} {flds : List Str} {k : Nat} (F : Fun K "__init__" qual st f fd) (S : FnScope ("self" :: flds) ("self" :: flds) (defScope st)) (hb : initB flds (defBody st) = true) (loc : ((("self" : Str) :: flds)).all (fun x => (defScope st).names.lookup x == some .local && okNm x) = true)
    (hgl : (defScope st).names.lookup ("HalfError" : Str) = some .globalImplicit) (ne : flds ≠ []) (small : flds.length ≤ 900) (hm : mg "HalfError" = some (.ref B)) (own : PySem.W.specialIn K (.ref B) "__getattribute__" = some (some (.builtin "type.__getattribute__"))) (rd : PySem.W.readsIn K B (.type "type") = true)
    (fc : PySem.W.findCls K (.ref B) (.type "type") "__init__" = some (.val (.builtin "ValueError.__init__"))) (T : OexC K C) (nof : ∀ g ∈ flds, PySem.W.findIn K (.ref C) g = some none) : FnOk P w K mg base (L2.CX P w) (k + 1) f fd ("self" :: flds) (spI C flds) := by
  refine Fun.okX (N := "self" :: flds) F S (fun vs H Q E ⟨a, ys, e, hl, _⟩ => by rw [e, List.length_cons, List.length_cons, hl]) fun cdv A outer s H vs Q E hr hsp => ?_
  obtain ⟨a, ys, ev, hl, ha, hq⟩ := hsp
  subst ev
  have all := List.all_eq_true.mp loc
  have vis : ∀ (i : Nat) (x : Str), (("self" : Str) :: flds)[i]? = some x → Vis (defScope st) x := fun i x hx => .inl (eq_of_beq (Bool.and_eq_true_iff.mp (all x (List.mem_of_getElem? hx))).1)
  have nms : ∀ (i : Nat) (x : Str), (("self" : Str) :: flds)[i]? = some x → (x == ("__debug__" : Str)) = false ∧ (x == ("__classdict__" : Str)) = false := fun i x hx =>
    let z := okName_ok' (Bool.and_eq_true_iff.mp (all x (List.mem_of_getElem? hx))).2
    ⟨z.1, z.2⟩
  generalize hbd : defBody st = bd at hb
  unfold initB at hb
  split at hb
  · rename_i h p1 m p2 s0 p3 t j p4 p5 p6 r
    simp only [Bool.and_eq_true] at hb
    obtain ⟨⟨⟨⟨b0, b1⟩, b2⟩, b3⟩, b4⟩ := hb
    have e1 := eq_of_beq b1
    have e2 := eq_of_beq b2
    have e3 := eq_of_beq b3
    subst e1 e2 e3
    let X := cxOf (L2.CX P w) P w K mg base ("self" :: flds) qual (defScope st) f cdv A outer s H E
    have hX : Gl X "HalfError" := hgl
    have arg : PA X [.Name "self" p3, .Constant (.str t) j p4] (tCons (tVar 0) (tCons (tC (.str t)) tNil)) := pa_cons (pe_var (X := X) (i := 0) rfl (vis 0 _ rfl)) (pa_cons pe_str pa_nil)
    refine ⟨_, pss_cons (ps_expr (pe_hinit (by simpa using b0) rfl hX hm own rd fc arg rfl rfl)) (ass_read (X := X) (j := 1) (flds := flds) rfl vis b4 fun i g hg => ?_), ?_⟩
    · have e : (("self" : Str) :: flds)[1 + i]? = some g := by rw [Nat.add_comm]; simpa using hg
      exact ⟨e, nms _ _ e⟩
    · have st0 : (start ("self" :: flds) (V.ref a :: ys))[0]? = some (some (.ref a)) := rfl
      have sti : ∀ (i : Nat) (y : V), ys[i]? = some y → (start ("self" :: flds) (V.ref a :: ys))[1 + i]? = some (some y) := fun i y hy => start_get (by rw [Nat.add_comm]; simpa using hy)
      refine ⟨.ref a, st0, a, C, [.str t], rfl, by simp, T, ha, ?_⟩
      cases flds with
      | nil => exact absurd rfl ne
      | cons g gs =>
        cases ys with
        | nil => simp at hl
        | cons y ys =>
          refine ⟨y, sti 0 y rfl, .ref a, st0, a, C, rfl, T, nof g List.mem_cons_self, .inl ⟨ha, fun dx hdx hne => ?_⟩⟩
          refine ass_go (dx := dx) (done := [(g, y)]) T st0 hne (by simpa using hl) (fun i z hz => ?_) (fun g' hg' => nof g' (List.mem_cons_of_mem _ hg')) (by simp at small ⊢; omega) upd_same ((upd_ne hne).trans upd_same) ?_
          · have z' := sti (i + 1) z (by simpa using hz)
            rwa [show 1 + (i + 1) = 1 + 1 + i from by omega] at z'
          · have e : upd (upd (upd H dx (exd dx [(g, y)])) a (exo a C (some dx))) dx (exd dx ((gs.zip ys).reverse ++ [(g, y)])) = upd (upd H a (exo a C (some dx))) dx (exd dx ((g :: gs).zip (y :: ys)).reverse) := by
              funext b
              by_cases h1 : b = dx
              · rw [h1, upd_same, upd_same]; simp
              · by_cases h2 : b = a
                · rw [upd_ne h1, upd_ne h1, h2, upd_same, upd_same]
                · rw [upd_ne h1, upd_ne h1, upd_ne h2, upd_ne h2, upd_ne h1]
            show Q .non _
            rw [e]
            exact hq dx hdx hne
  · cases hb
end
theorem RFs.snoc {K : PySem.W.Frag} {mg : Str → Option Value} {G : Hp} {k : Str} {d : D} {v : V} (r : RV K mg G d v) : ∀ {fs : List (Str × D)} {vs : List (Str × V)}, RFs K mg G fs vs → RFs K mg G (fs ++ [(k, d)]) (vs ++ [(k, v)])
  | [], _, q => by rw [show _ = [] from q]; exact ⟨v, [], rfl, r, rfl⟩
  | (k', d') :: fs, _, ⟨y, ys, e, q, t⟩ => by rw [e]; exact ⟨y, _, rfl, q, RFs.snoc r t⟩
theorem RFs.zip {K : PySem.W.Frag} {mg : Str → Option Value} {G : Hp} : ∀ {flds : List Str} {ds : List D} {ys : List V}, RVs K mg G ds ys → RFs K mg G (flds.zip ds).reverse (flds.zip ys).reverse
  | [], _, _, _ => by simp [RFs]
  | f :: fs, [], _, r => by rw [show _ = [] from r]; simp [RFs]
  | f :: fs, d :: ds, _, ⟨y, ys, e, q, t⟩ => by
    rw [e]
    simp only [List.zip_cons_cons, List.reverse_cons]
    exact RFs.snoc q (RFs.zip t)
theorem RFs.lookup {K : PySem.W.Frag} {mg : Str → Option Value} {G : Hp} {f : Str} {x : D} : ∀ {fs : List (Str × D)} {vs : List (Str × V)}, RFs K mg G fs vs → fs.lookup f = some x → ∃ v, vs.lookup f = some v ∧ RV K mg G x v
  | [], _, _, h => by cases h
  | (k, d) :: fs, _, ⟨y, ys, e, q, t⟩, h => by
    rw [e]
    rw [List.lookup_cons] at h ⊢
    cases hb : f == k with
    | true =>
      rw [hb] at h
      cases h
      exact ⟨y, rfl, q⟩
    | false =>
      rw [hb] at h
      exact RFs.lookup t h
def raiseM (c : Str) (flds : List Str) (ms : M (List D)) : M Fl := fun ρ => (ms ρ).bind fun ds ρ => if ds.length = flds.length then .exc c (flds.zip ds).reverse ρ else .bad
theorem pms_raise {X : Cx} {Wx : WG} {io : List Nat} {x c : Str} {C fI : Addr} {k : Nat} {fd : FuncData} {flds : List Str} {e : Expr} {es : List Expr} {ms : M (List D)} {p pos pos' : Pos} (hc : X.calm = true) (tk : Takes X Wx.w) (T : OexC X.K C) (iC : PySem.W.findIn X.K (.ref C) "__init__" = some (some (.ref fI)))
    (tI : PySem.W.typeIn X.K (.ref fI) = some (.type "function")) (F1 : FnOk X.prog X.w X.K X.mg X.base (L2.CX X.prog X.w) k fI fd ("self" :: flds) (spI C flds)) (hr : Room (k + 1) X.A) (hb : Binds X.K fd ("self" :: flds) []) (small : flds.length ≤ 900) (hg : Gl X x) (hm : X.mg x = some (.ref C)) (hmc : X.mg c = some (.ref C))
    (ha : PML X Wx (e :: es) ms) (hdb : (x == ("__debug__" : Str)) = false) (he : starEach (e :: es) X.env = (false, eval e X.env) :: starEach es X.env) (hpl : (backTo pos (starEach es X.env)).any (·.1) = false) :
    PMS X Wx io (.Raise (some (.Call (.Name x p) (e :: es) [] pos)) none pos') (raiseM c flds ms) := by
  have hx : Passes (L2.CX X.prog X.w) X (fun _ _ _ => False) := passes_call tk fun _ _ _ _ z => z.elim
  refine psImp (ps_raise hc tk (pmk_oex T iC tI F1 hr hb (.nil) hx hg hm ha hdb he hpl)) fun En σ H h => ?_
  obtain ⟨ρ, G, R, h⟩ := h
  refine ⟨ρ, G, R, ?_⟩
  have h' : GoS X.K X.mg Wx io σ ρ H G ((ms ρ).bind fun ds ρ => if ds.length = flds.length then .exc c (flds.zip ds).reverse ρ else .bad) En := h
  cases em : ms ρ with
  | bad => rw [em] at h'; exact h'
  | exc c0 fs0 ρ1 => rw [em] at h'; exact fun cls od H' G' R' F' rx => h' cls od σ H' G' R' F'.io_nil rx
  | ok ds ρ1 =>
    rw [em] at h'
    intro vs H1 G1 R1 F1' rvs
    have h2 : GoS X.K X.mg Wx io σ ρ H G (if ds.length = flds.length then .exc c (flds.zip ds).reverse ρ1 else .bad) En := h'
    split at h2
    · rename_i hl
      have hlv : vs.length = flds.length := rvs.length.symm.trans hl
      refine ⟨by omega, fun a na => ⟨a, vs, by simp, hlv, upd_same, fun dx hdx hne => ⟨rfl, dx, (flds.zip vs).reverse, (upd_ne (Ne.symm hne)).trans upd_same, upd_same, ?_, ?_⟩⟩⟩
      · rw [upd_ne hne] at hdx
        exact hdx
      · rw [upd_ne hne] at hdx
        have eH : upd (del (upd (upd (upd H1 a (exo a C none)) a (exo a C (some dx))) dx (exd dx (flds.zip vs).reverse)) a) dx (.xd (flds.zip vs).reverse) = upd H1 dx (.xd (flds.zip vs).reverse) := by
          funext b
          by_cases h1 : b = dx
          · rw [h1, upd_same, upd_same]
          · rw [upd_ne h1, upd_ne h1]
            by_cases h3 : b = a
            · rw [h3, del_same, na]
            · rw [del_ne h3, upd_ne h1, upd_ne h3, upd_ne h3]
        rw [eH]
        obtain ⟨gdx, ndx⟩ := R1.noG hdx
        have R2 : Rel X.K X.mg Wx.fl σ ρ1 (upd H1 dx (.xd (flds.zip vs).reverse)) G1 := R1.aside gdx ndx fun u z => by rw [hdx] at z; cases z
        have F2 : Fr [] σ ρ1 H1 G1 σ ρ1 (upd H1 dx (.xd (flds.zip vs).reverse)) G1 := ⟨SubH.refl, fun b o hb _ hg hn => ⟨by rw [upd_ne (ne_of_none hb hdx)]; exact hb, hg, hn⟩, fun _ _ => rfl, rfl⟩
        exact h2 (.ref C) (some dx) σ _ G1 R2 (F1'.trans F2).io_nil ⟨C, rfl, hmc, .inr ⟨dx, _, rfl, upd_same, fun f y hy => (RFs.zip rvs).lookup hy⟩⟩
    · exact h2.elim
end FL
set_option Elab.async false
set_option linter.all false
set_option maxRecDepth 100000
set_option maxHeartbeats 2000000
namespace FL
open PySem PySem.Spec L2
open PyProof.Rows hiding St
/-- a clause: its class, and (where it may be taken) the slot of its name, its suite's reading -/
abbrev Cla := Value × Option (Nat × (Addr → Value → Option Addr → TS))
def noSlot (D : Ends) (i : Nat) : Ends := { nx := fun σ H => D.nx (σ.set i none) H, rt := D.rt, bk := fun σ H => D.bk (σ.set i none) H, ct := fun σ H => D.ct (σ.set i none) H }
def wCla (K : PySem.W.Frag) (Wo : WX) (D : Ends) : List Cla → WX
  | [] => Wo
  | (c, none) :: r => fun cls d σ H => PySem.W.exmOne K cls c = some false ∧ wCla K Wo D r cls d σ H
  | (c, some (i, ts)) :: r => fun cls d σ H => ∃ b, PySem.W.exmOne K cls c = some b ∧ (b = true → ∀ a, H a = none → ts a cls d (noSlot D i) (σ.set i (some (.ref a))) H) ∧ (b = false → wCla K Wo D r cls d σ H)
inductive Clas (X : Cx) : List ExceptHandler → List Cla → Prop
  | nil : Clas X [] []
  | never {x : Str} {c : Value} {nm : Option Str} {st : Stmt} {sts : List Stmt} {p1 p2 : Pos} {hs : List ExceptHandler} {l : List Cla} (hc : Names X x c) (r : Clas X hs l) : Clas X (.ExceptHandler (some (.Name x p1)) nm (st :: sts) p2 :: hs) ((c, none) :: l)
  | may {x n : Str} {c : Value} {i : Nat} {ts : Addr → Value → Option Addr → TS} {st : Stmt} {sts : List Stmt} {p1 p2 : Pos} {hs : List ExceptHandler} {l : List Cla} (hc : Names X x c) (hi : X.N[i]? = some n) (hn : X.env.kindOf n = some .local)
      (su : ∀ (a : Addr) (oe : Obj) (cls : Value) (d : Option Addr) (pn : List (Addr × Obj)), Zc cls d oe → (∃ vs, oe.data = .fields vs) → PSs (X.suite a ((a, oe) :: pn)) (st :: sts) (ts a cls d)) (r : Clas X hs l) :
      Clas X (.ExceptHandler (some (.Name x p1)) (some n) (st :: sts) p2 :: hs) ((c, some (i, ts)) :: l)
section
variable {X : Cx} {body : List Stmt} {hd : ExceptHandler} {tl : List ExceptHandler} {l : List Cla} {pos : Pos} {tb : WX → TS} {Wo : WX}
theorem ps_try_list (hs : X.stack = X.env :: X.outer) (hf : X.env.frame = some X.env.locals) (nd : X.N.Nodup) (tk : Takes X Wo)
    (inner : ∀ (W : WX) (pn : List (Addr × Obj)) (xe : Value → Shared → Prop), Takes (X.tr pn xe) W → PassesOwn (model X.prog X.w) X.A X.env xe → PSs (X.tr pn xe) body (tb W))
    (cs : Clas X (hd :: tl) l) : PS X (.Try body (hd :: tl) [] [] pos) (fun D σ H => tb (wCla X.K Wo D l) D σ H) := by
  refine ⟨fun pins s σ H D I h => wpAny_Try_except ?_⟩
  have okX := I.ok
  have frames : X.A.frames = some (X.env :: X.outer) := okX.frames.trans (by rw [hs])
  let after : Value → Shared → Prop := fun e s1 => wpAny (model X.prog X.w) X.A (noteFrame e X.env) (fun _ s2 => wpAny (model X.prog X.w) X.A (setFlight e none) (fun _ s3 => wpAny (model X.prog X.w) X.A (handleBy e X.env (hd :: tl)) (SP X pins D) X.xe s3) X.xe s2) X.xe s1
  have run := (inner (wCla X.K Wo D l) (X.pn ++ pins) after (fun u s' air => ?air) PassesOwn.looking).run [] s σ H D (I.toTry _) h
  case air =>
    obtain ⟨a, B, sI, pins', σ', H', cls, d, eu, Jt, nb, up, sky, na, os, bare, wish⟩ := air
    subst eu
    have J : Inv X pins σ' H' sI := Jt.ofTry okX
    refine Sky.land Zc.steady frames hf (by rw [← hs]; exact sky) fun h3 fly up3 => ?_
    have J3 : Inv X pins σ' H' { s' with heap := h3 } := J.landed nb fly.1 (up.trans up3) os bare
    obtain ⟨oe, vs, hoe, zoe, doe⟩ := fly.there
    have nofr : a ∉ frs (X.env :: X.outer) := fun hm => by
      obtain ⟨_, o', e', n'⟩ := fly.2.2.1.mem hm
      rw [hoe] at e'
      cases e'
      exact n' _ doe
    have noL : a ≠ X.env.locals := fun z => nofr (List.mem_filterMap.mpr ⟨X.env, List.mem_cons_self, by rw [z]; exact hf⟩)
    have noF : a ∉ X.fs := fun hm => by
      obtain ⟨ev, he, q⟩ := List.mem_filterMap.mp hm
      exact nofr (List.mem_filterMap.mpr ⟨ev, List.mem_cons_of_mem _ he, q⟩)
    have ask := J3.suite hoe doe na noL noF
    have types : PySem.W.Looks (model X.prog X.w) h3 (typeOf (.ref a)) cls := fun A Q E s k q => wpAny_typeOf_ref (k _ _ hoe) (by rw [zoe.1]; exact q)
    have name : ∀ {x : Str} {c : Value} {np : Pos} {Q E : Value → Shared → Prop}, Names X x c → Q c { s' with heap := h3 } → wpAny (model X.prog X.w) (X.A.mark (some (.ref a))) (eval (.Name x np) X.env) Q E { s' with heap := h3 } := fun {x c np Q E} nm q => by
      obtain ⟨g, nd', m | ⟨m, v, n⟩⟩ := nm
      · exact ld_glob (X := X.suite a ((a, oe) :: (X.pn ++ pins))) ask g m q nd'
      · exact ld_blt (X := X.suite a ((a, oe) :: (X.pn ++ pins))) ask g m v q n nd'
    have go : ∀ {hs' : List ExceptHandler} {l' : List Cla}, Clas X hs' l' → wCla X.K Wo D l' cls d σ' H' → wpAny (model X.prog X.w) X.A (handleBy (.ref a) X.env hs') (SP X pins D) X.xe { s' with heap := h3 } := by
      intro hs' l' cl
      induction cl with
      | nil =>
        intro w
        have out : wpAny (model X.prog X.w) X.A (setFlight (.ref a) X.env.frame) (fun _ s4 => wpAny (model X.prog X.w) X.A (throw (.ref a) : Sem Flow) (SP X pins D) X.xe s4) X.xe { s' with heap := h3 } := by
          rw [hf]
          exact HandSPX.setFlight_upZ fly fun h4 held up4 => wpAny_throw (tk _ _ ⟨a, B, sI, pins, σ', H', cls, d, rfl, J, nb, (up.trans up3).trans up4, .inr (.inr (by rw [hs]; exact held)), na, os, bare, w⟩)
        refine wpAny_handleBy_nil ?_
        obtain ⟨_, _, _, oe', vs', tr, _, _, g1, _, g2, g3, _⟩ := id fly
        unfold PySem.passOn
        refine wpAny_bind (wpAny_field g1 g2 g3 ?_)
        rw [if_neg (by simp : ¬ ((Value.ref tr == Value.none) = true))]
        first
          | exact wpAny_bind out
          | exact wpAny_bind (wpAny_pure (wpAny_bind out))
      | never hc r ih =>
        intro w
        refine wpAny_handleBy_cons (codeAny_handlers_test (name hc ?_)) (fun z => by cases z)
        exact (PySem.W.exm_one (M := model X.prog X.w) J3.kIn types w.1).here (ih w.2)
      | @may x n c i ts st sts p1 p2 hs2 l2 hc hi hn su r ih =>
        intro w
        obtain ⟨b, eb, yes, no⟩ := w
        refine wpAny_handleBy_cons (codeAny_handlers_test (name hc ?_)) (fun z => by cases z)
        refine (PySem.W.exm_one (M := model X.prog X.w) J3.kIn types eb).here ?_
        cases b with
        | false => exact ih (no rfl)
        | true =>
          refine codeAny_handlers_suite_as (HandSPX.lands_againZ fly fun h4 fly4 up4 => ?_)
          obtain ⟨o4, vs4, hoe4, zo4, do4⟩ := fly4.there
          have inS := (J.landed (s' := { s' with heap := h4 }) nb fly4.1 ((up.trans up3).trans up4) os bare).suite hoe4 do4 na noL noF
          refine store_ok (v := .ref a) (X := X.suite a ((a, o4) :: (X.pn ++ pins))) inS nd hi (.inl hn) rfl (fun s5 in5 => ?_) (.inr hn)
          refine wpAny_mono ((su a o4 cls d (X.pn ++ pins) zo4 ⟨_, do4⟩).run [] s5 _ H' _ in5 (yes rfl a na)) (fun fl s6 res => ?_) fun _ _ z => z.elim
          have leave : ∀ {σ6 : St} {H6 : Hp} {Q : Shared → Prop}, Inv (X.suite a ((a, o4) :: (X.pn ++ pins))) [] σ6 H6 s6 → (∀ s7, Inv X pins (σ6.set i none) H6 s7 → Q s7) →
              wpAny (model X.prog X.w) X.A (do bindName X.env n .none; unbindBehindTheSuite X.env n p2) (fun _ s7 => Q s7) X.xe s6 := fun in6 q => gone_ok (in6.unsuite okX) nd hi hn q
          match fl, res with
          | .next, ⟨_, _, in6, q⟩ => exact leave in6 fun s7 J7 => ⟨_, _, J7, q⟩
          | .brk, ⟨_, _, in6, q⟩ => exact leave in6 fun s7 J7 => ⟨_, _, J7, q⟩
          | .cont, ⟨_, _, in6, q⟩ => exact leave in6 fun s7 J7 => ⟨_, _, J7, q⟩
          | .ret u, ⟨_, _, _, in6, rv, q⟩ => exact leave in6 fun s7 J7 => ⟨_, _, _, J7, rv, q⟩
    exact go cs wish
  refine wpAny_mono run (fun fl s1 res => ?_) fun e s1 q => q
  match fl, res with
  | .next, ⟨_, _, in1, q⟩ => exact wpAny_execs_nil ⟨_, _, in1.ofTry okX, q⟩
  | .brk, ⟨_, _, in1, q⟩ => exact ⟨_, _, in1.ofTry okX, q⟩
  | .cont, ⟨_, _, in1, q⟩ => exact ⟨_, _, in1.ofTry okX, q⟩
  | .ret u, ⟨_, _, _, in1, rv, q⟩ => exact ⟨_, _, _, in1.ofTry okX, rv, q⟩
end
end FL
set_option Elab.async false
set_option linter.all false
set_option maxRecDepth 100000
set_option maxHeartbeats 2000000
namespace FL
open PySem PySem.Spec L2
open PyProof.Rows hiding St
/-- the items of a clause's answer: a text, or a field of the error -/
abbrev It := Str ⊕ Str
def itD (fs : List (Str × D)) : It → Option D
  | .inl s => some (.str s)
  | .inr f => fs.lookup f
def itsD (fs : List (Str × D)) : List It → Option (List D)
  | [] => some []
  | t :: r => match itD fs t, itsD fs r with
    | some d, some ds => some (d :: ds)
    | _, _ => none
def rdIts (n : Str) : List Expr → Option (List It)
  | [] => some []
  | .Constant (.str s) _ _ :: r => (rdIts n r).map (.inl s :: ·)
  | .Attribute (.Name y _) f _ :: r => if (y == n) = true then (rdIts n r).map (.inr f :: ·) else none
  | _ => none
def tIts (a : Addr) (cls : Value) (d : Option Addr) (C : Addr) (i : Nat) : List It → TA
  | [] => tNil
  | .inl s :: r => tCons (tC (.str s)) (tIts a cls d C i r)
  | .inr f :: r => tCons (tXf a cls d C f (tVar i)) (tIts a cls d C i r)
section
variable {X : Cx} {n : Str} {i : Nat} {a C : Addr} {oe : Obj} {cls : Value} {d : Option Addr} {pn : List (Addr × Obj)}
theorem its_read (T : XfC X.K C) (hz : Zc cls d oe) (hf : ∃ vs, oe.data = .fields vs) (hN : X.N[i]? = some n) (hv : Vis X.env.scope n) (hn : okNm n = true) : ∀ {es : List Expr} {its : List It}, rdIts n es = some its → (∀ f, .inr f ∈ its → PySem.W.findIn X.K (.ref C) f = some none) → PA (X.suite a ((a, oe) :: pn)) es (tIts a cls d C i its)
  | [], its, h, _ => by
    cases (show some [] = some its from h)
    exact pa_nil
  | e :: es, its, h, hfs => by
    unfold rdIts at h
    split at h
    · rename_i z
      cases z
    · rename_i s _ _ r z
      cases z
      obtain ⟨t, ht, e2⟩ := Option.map_eq_some_iff.mp h
      subst e2
      exact pa_cons pe_str (its_read T hz hf hN hv hn ht fun f hm => hfs f (List.mem_cons_of_mem _ hm))
    · rename_i y _ f _ r z
      cases z
      split at h
      · rename_i hy
        rw [eq_of_beq hy]
        obtain ⟨t, ht, e2⟩ := Option.map_eq_some_iff.mp h
        subst e2
        obtain ⟨n1, n2⟩ := okName_ok' hn
        exact pa_cons (pe_xf T (hfs f List.mem_cons_self) hz hf (pe_var (X := X.suite a ((a, oe) :: pn)) hN hv n1 n2)) (its_read T hz hf hN hv hn ht fun f hm => hfs f (List.mem_cons_of_mem _ hm))
      · cases h
    · cases h
theorem its_go {K : PySem.W.Frag} {mg : Str → Option Value} {G H : Hp} {σ : St} {fs : List (Str × D)} (hi : σ[i]? = some (some (.ref a))) (hc : cls = .ref C) (hx : ∀ f x, fs.lookup f = some x → ∃ (dd : Addr) (vs : List (Str × V)) (v : V), d = some dd ∧ H dd = some (.xd vs) ∧ vs.lookup f = some v ∧ RV K mg G x v) :
    ∀ {its : List It} {ds : List D} {Q : List V → Hp → Prop}, itsD fs its = some ds → (∀ ys, RVs K mg G ds ys → Q ys H) → tIts a cls d C i its σ H Q
  | [], ds, Q, h, q => by
    cases (show some [] = some ds from h)
    exact q [] rfl
  | t :: r, ds, Q, h, q => by
    unfold itsD at h
    split at h
    · rename_i x xs e1 e2
      cases h
      cases t with
      | inl s =>
        cases (show some (D.str s) = some x from e1)
        show tIts a cls d C i r σ H fun xs H2 => Q (.str s :: xs) H2
        exact its_go hi hc hx e2 fun ys rys => q _ ⟨.str s, ys, rfl, rfl, rys⟩
      | inr f =>
        obtain ⟨dd, vs, v, h1, h2, h3, h4⟩ := hx f x e1
        exact ⟨.ref a, hi, rfl, hc, dd, vs, v, h1, h2, h3, its_go hi hc hx e2 fun ys rys => q _ ⟨v, ys, rfl, h4, rys⟩⟩
    · cases h
end
/-- a clause: its class; where it may be taken: its name's slot, its answer's items -/
structure Hc where
  cn : Str
  its : Option (Nat × List It)
def handF (i : Nat) (its : List It) (fs : List (Str × D)) : M Fl := fun ρ => match itsD fs its with
  | some ds => if (decide (i < ρ.length) && decide (ds.length ≤ 1000)) = true then .ok (.ret (.d (.tup ds))) ρ else .bad
  | none => .bad
def handM (sub : Str → Str → Option Bool) (c : Str) (fs : List (Str × D)) : List Hc → M Fl
  | [] => fun ρ => .exc c fs ρ
  | h :: r => match sub c h.cn with
    | some false => handM sub c fs r
    | some true => match h.its with
      | some (i, its) => if (c == h.cn) = true then handF i its fs else fun _ => .bad
      | none => fun _ => .bad
    | none => fun _ => .bad
def tryM (sub : Str → Str → Option Bool) (b : M Fl) (hs : List Hc) : M Fl := fun ρ => match b ρ with
  | .exc c fs ρ1 => handM sub c fs hs ρ1
  | r => r
inductive Hands (X : Cx) (sub : Str → Str → Option Bool) : List ExceptHandler → List Hc → Prop
  | nil : Hands X sub [] []
  | cons {x cn : Str} {C : Addr} {nm : Option Str} {its : Option (Nat × List It)} {st : Stmt} {sts : List Stmt} {p1 p2 : Pos} {hs : List ExceptHandler} {l : List Hc} (hg : Gl X x) (hd : (x == ("__debug__" : Str)) = false) (hm : X.mg x = some (.ref C)) (hmc : X.mg cn = some (.ref C))
      (sb : ∀ c b C0, sub c cn = some b → X.mg c = some (.ref C0) → PySem.W.exmOne X.K (.ref C0) (.ref C) = some b)
      (rd : ∀ i ts, its = some (i, ts) → ∃ n es k pp pp', nm = some n ∧ st :: sts = [.Return (some (.Tuple es k pp)) pp'] ∧ X.N[i]? = some n ∧ X.env.kindOf n = some .local ∧ okNm n = true ∧ rdIts n es = some ts ∧ XfC X.K C ∧ ∀ f, .inr f ∈ ts → PySem.W.findIn X.K (.ref C) f = some none)
      (r : Hands X sub hs l) : Hands X sub (.ExceptHandler (some (.Name x p1)) nm (st :: sts) p2 :: hs) (⟨cn, its⟩ :: l)
section
variable {X : Cx} {Wx : WG} {io : List Nat} {sub : Str → Str → Option Bool}
theorem hands_go : ∀ {hs : List ExceptHandler} {hcs : List Hc}, Hands X sub hs hcs → ∃ l : List Cla, Clas X hs l ∧ ∀ (σ : St) (ρ : Rho) (H G : Hp) (En : Ends) (c : Str) (fs : List (Str × D)) (ρ1 : Rho), GoS X.K X.mg Wx io σ ρ H G (handM sub c fs hcs ρ1) En →
    ∀ cls od σ' H' G', Rel X.K X.mg Wx.fl σ' ρ1 H' G' → Fr io σ ρ H G σ' ρ1 H' G' → RX X.K X.mg H' G' cls od c fs → wCla X.K Wx.w En l cls od σ' H' := by
  intro hs hcs hh
  induction hh with
  | nil => exact ⟨[], .nil, fun σ ρ H G En c fs ρ1 h cls od σ' H' G' R F rx => h cls od σ' H' G' R F rx⟩
  | @cons x cn C nm its st sts p1 p2 hs l hg hd hm hmc sb rd r ih =>
    obtain ⟨l', cl, go⟩ := ih
    have nmx : Names X x (.ref C) := ⟨hg, hd, .inl hm⟩
    cases its with
    | none =>
      refine ⟨(.ref C, none) :: l', .never nmx cl, fun σ ρ H G En c fs ρ1 h cls od σ' H' G' R F rx => ?_⟩
      have rx' := rx
      obtain ⟨C0, e1, e2, _⟩ := rx'
      subst e1
      have h' : GoS X.K X.mg Wx io σ ρ H G ((match sub c cn with
        | some false => handM sub c fs l
        | some true => fun _ => .bad
        | none => fun _ => .bad) ρ1) En := h
      cases es : sub c cn with
      | none => rw [es] at h'; exact h'.elim
      | some b =>
        cases b with
        | true => rw [es] at h'; exact h'.elim
        | false =>
          rw [es] at h'
          exact ⟨sb c false C0 es e2, go σ ρ H G En c fs ρ1 h' _ od σ' H' G' R F rx⟩
    | some p =>
      obtain ⟨i, ts⟩ := p
      obtain ⟨n, es, k, pp, pp', en, est, hi, hl, hn, hr, T, hfs⟩ := rd i ts rfl
      subst en
      have est' := est
      rw [List.cons_eq_cons] at est'
      obtain ⟨est1, est2⟩ := est'
      subst est1 est2
      refine ⟨(.ref C, some (i, fun a cls d => tRet (tTup (tIts a cls d C i ts)))) :: l', .may nmx hi hl (fun a oe cls d pn hz hf => pss_one (ps_ret (pe_tup (its_read T hz hf hi (.inl hl) hn hr hfs)))) cl, fun σ ρ H G En c fs ρ1 h cls od σ' H' G' R F rx => ?_⟩
      have rx' := rx
      obtain ⟨C0, e1, e2, e3⟩ := rx'
      subst e1
      have h' : GoS X.K X.mg Wx io σ ρ H G ((match sub c cn with
        | some false => handM sub c fs l
        | some true => if (c == cn) = true then handF i ts fs else fun _ => .bad
        | none => fun _ => .bad) ρ1) En := h
      cases eb : sub c cn with
      | none => rw [eb] at h'; exact h'.elim
      | some b =>
        cases b with
        | false =>
          rw [eb] at h'
          exact ⟨false, sb c false C0 eb e2, fun z => (nomatch z), fun _ => go σ ρ H G En c fs ρ1 h' _ od σ' H' G' R F rx⟩
        | true =>
          rw [eb] at h'
          have h2 : GoS X.K X.mg Wx io σ ρ H G ((if (c == cn) = true then handF i ts fs else fun _ => .bad) ρ1) En := h'
          refine ⟨true, sb c true C0 eb e2, fun _ a na => ?_, fun z => (nomatch z)⟩
          by_cases hcn : (c == cn) = true
          · rw [if_pos hcn] at h2
            have ec := eq_of_beq hcn
            subst ec
            rw [hmc] at e2
            cases e2
            unfold handF at h2
            cases ei : itsD fs ts with
            | none => rw [ei] at h2; exact h2.elim
            | some ds =>
              rw [ei] at h2
              dsimp only at h2
              split at h2
              · rename_i hsz
                rw [Bool.and_eq_true, decide_eq_true_eq, decide_eq_true_eq] at hsz
                have hlen : i < σ'.length := by rw [← R.len]; exact hsz.1
                refine its_go (K := X.K) (mg := X.mg) (G := G') (fs := fs) (List.getElem?_set_self hlen) rfl (fun f x hx => ?_) ei fun ys rys => ⟨by rw [← rys.length, sizeLine_eq]; omega, fun p hp => ?_⟩
                · rcases e3 with z | ⟨dd, vs, h3, h4, h5⟩
                  · rw [z] at hx; cases hx
                  · obtain ⟨v, h6, h7⟩ := h5 f x hx
                    exact ⟨dd, vs, v, h3, h4, h6, h7⟩
                · obtain ⟨R2, F2, r2⟩ := R.al (Al.tup (mg := X.mg) (K := X.K) R.sub hp rys)
                  exact h2 (.ref p) σ' _ _ R2 (F.trans F2.io_nil) ⟨r2.1, fun _ _ z => nomatch z⟩
              · exact h2.elim
          · rw [if_neg hcn] at h2
            exact h2.elim
theorem pms_try {body : List Stmt} {hd : ExceptHandler} {tl : List ExceptHandler} {hcs : List Hc} {m : M Fl} {pos : Pos} (hs : X.stack = X.env :: X.outer) (hf : X.env.frame = some X.env.locals) (nd : X.N.Nodup) (tk : Takes X Wx.w)
    (inner : ∀ (W : WX) (pn : List (Addr × Obj)) (xe : Value → Shared → Prop), Takes (X.tr pn xe) W → PassesOwn (model X.prog X.w) X.A X.env xe → PMSs (X.tr pn xe) ⟨W, Wx.fl⟩ io body m) (hh : Hands X sub (hd :: tl) hcs) : PMS X Wx io (.Try body (hd :: tl) [] [] pos) (tryM sub m hcs) := by
  obtain ⟨l, cl, go⟩ := hands_go (Wx := Wx) (io := io) hh
  refine psImp (ps_try_list hs hf nd tk (tb := fun W => tS X.K X.mg ⟨W, Wx.fl⟩ io m) (fun W pn xe t po => inner W pn xe t po) cl) fun En σ H h => ?_
  obtain ⟨ρ, G, R, h⟩ := h
  refine ⟨ρ, G, R, ?_⟩
  have h' : GoS X.K X.mg Wx io σ ρ H G (match m ρ with
    | .exc c fs ρ1 => handM sub c fs hcs ρ1
    | r => r) En := h
  cases em : m ρ with
  | bad => rw [em] at h'; exact h'
  | ok fl ρ' =>
    rw [em] at h'
    cases fl with
    | nx => exact h'
    | brk => exact h'
    | cont => exact h'
    | ret w => exact h'
  | exc c fs ρ1 =>
    rw [em] at h'
    exact fun cls od σ' H' G' R' F' rx => go σ ρ H G En c fs ρ1 h' cls od σ' H' G' R' F' rx
end
end FL
set_option Elab.async false
set_option linter.all false
set_option maxRecDepth 100000
set_option maxHeartbeats 2000000
namespace FL
open PySem PySem.Spec L2
open PyProof.Rows hiding St
mutual
/-- no locked dict in it -/
def noLk : D → Bool
  | .tup ds => noLks ds
  | .lst ds => noLks ds
  | .dct kvs => noLkk kvs
  | .obj _ fs => noLkf fs
  | .ldc _ => false
  | _ => true
def noLks : List D → Bool
  | [] => true
  | d :: ds => noLk d && noLks ds
def noLkk : List (Key × D) → Bool
  | [] => true
  | (_, d) :: ds => noLk d && noLkk ds
def noLkf : List (Str × D) → Bool
  | [] => true
  | (_, d) :: ds => noLk d && noLkf ds
end
def without (a : Addr) (G : Hp) : Hp := fun b => if b = a then none else G b
section
variable {K : PySem.W.Frag} {mg : Str → Option Value} {a : Addr} {G : Hp} {od : Obj} {ks0 : List (Key × V)}
theorem without_at (g : G a = some (.frz od (.dK ks0))) {b : Addr} {u : HO} (e : G b = some u) (n : ∀ o ks, u ≠ .frz o (.dK ks)) : without a G b = some u := by
  have hb : b ≠ a := fun z => by
    rw [z, g] at e
    exact n od ks0 (Option.some.inj e).symm
  exact (if_neg hb).trans e
mutual
theorem RV.without (g : G a = some (.frz od (.dK ks0))) : ∀ (d : D) (v : V), noLk d = true → RV K mg G d v → RV K mg (without a G) d v
  | .non, _, _, r => r
  | .bl _, _, _, r => r
  | .int _, _, _, r => r
  | .str _, _, _, r => r
  | .ty _, _, _, r => r
  | .tup ds, _, h, ⟨p, xs, e, q, r⟩ => ⟨p, xs, e, by
    rcases q with (q | ⟨o, q⟩) | q
    · exact .inl (.inl (without_at g q (fun _ _ z => nomatch z)))
    · exact .inl (.inr ⟨o, without_at g q (fun _ _ z => nomatch z)⟩)
    · exact .inr q, RVs.without g ds xs h r⟩
  | .lst ds, _, h, ⟨p, xs, e, q, r⟩ => ⟨p, xs, e, without_at g q (fun _ _ z => nomatch z), RVs.without g ds xs h r⟩
  | .dct kvs, _, h, ⟨p, ks, e, q, r⟩ => ⟨p, ks, e, without_at g q (fun _ _ z => nomatch z), RKs.without g kvs ks h r⟩
  | .obj _ fs, _, h, ⟨p, C, dx, vs, e, m, q, q2, r⟩ => ⟨p, C, dx, vs, e, m, without_at g q (fun _ _ z => nomatch z), without_at g q2 (fun _ _ z => nomatch z), RFs.without g fs vs h r⟩
  | .fn _, _, _, r => r
  | .scr _, _, _, ⟨p, e, q⟩ => ⟨p, e, by
    rcases q with (q | ⟨o, q⟩) | q
    · exact .inl (.inl (without_at g q (fun _ _ z => nomatch z)))
    · exact .inl (.inr ⟨o, without_at g q (fun _ _ z => nomatch z)⟩)
    · exact .inr q⟩
  | .clo _ _, _, _, ⟨f, c', e, q, q2⟩ => ⟨f, c', e, without_at g q (fun _ _ z => nomatch (show HO.ext _ = HO.frz _ _ from z)), without_at g q2 (fun _ _ z => nomatch (show HO.ext _ = HO.frz _ _ from z))⟩
  | .ldc _, _, h, _ => nomatch h
theorem RVs.without (g : G a = some (.frz od (.dK ks0))) : ∀ (ds : List D) (xs : List V), noLks ds = true → RVs K mg G ds xs → RVs K mg (without a G) ds xs
  | [], _, _, r => r
  | d :: ds, _, h, ⟨y, ys, e, r, t⟩ => ⟨y, ys, e, RV.without g d y (Bool.and_eq_true_iff.mp h).1 r, RVs.without g ds ys (Bool.and_eq_true_iff.mp h).2 t⟩
theorem RKs.without (g : G a = some (.frz od (.dK ks0))) : ∀ (ds : List (Key × D)) (xs : List (Key × V)), noLkk ds = true → RKs K mg G ds xs → RKs K mg (without a G) ds xs
  | [], _, _, r => r
  | (_, d) :: ds, _, h, ⟨y, ys, e, r, t⟩ => ⟨y, ys, e, RV.without g d y (Bool.and_eq_true_iff.mp h).1 r, RKs.without g ds ys (Bool.and_eq_true_iff.mp h).2 t⟩
theorem RFs.without (g : G a = some (.frz od (.dK ks0))) : ∀ (ds : List (Str × D)) (xs : List (Str × V)), noLkf ds = true → RFs K mg G ds xs → RFs K mg (without a G) ds xs
  | [], _, _, r => r
  | (_, d) :: ds, _, h, ⟨y, ys, e, r, t⟩ => ⟨y, ys, e, RV.without g d y (Bool.and_eq_true_iff.mp h).1 r, RFs.without g ds ys (Bool.and_eq_true_iff.mp h).2 t⟩
end
end
def noLkW : Option W → Bool
  | none => true
  | some w => noLk w.data
def noLkR (i : Nat) (ρ : Rho) : Bool := (ρ.set i none).all noLkW
def lockS (i : Nat) (m : M Fl) : M Fl := fun ρ => match ρ[i]? with
  | some (some (.own (.dct kvs))) => match m (ρ.set i (some (.d (.ldc kvs)))) with
    | .ok .nx ρ' => if noLkR i ρ' = true then .ok .nx (ρ'.set i (some (.own (.dct kvs)))) else .bad
    | _ => .bad
  | _ => .bad
theorem pms_lock {X : Cx} {Wx : WG} {io : List Nat} {st : Stmt} {i : Nat} {m : M Fl} (h : PMS X Wx (i :: io) st m) : PMS X Wx io st (lockS i m) := by
  refine psImp (ps_lock h) fun En σ H hw => ?_
  obtain ⟨ρ, G, R, go⟩ := hw
  unfold lockS at go
  split at go
  · rename_i kvs ei
    obtain ⟨v, si, a, ev, ga, ks, ha, rk⟩ := R.slot i _ ei
    subst ev
    have hlt : i < ρ.length := (List.getElem?_eq_some_iff.mp ei).1
    have grow0 : ∀ {od : Obj}, SubH G (upd G a (.frz od (.dK ks))) := fun {od} b o e => by
      rw [upd_ne (fun z => by rw [z, ga] at e; cases e)]
      exact e
    refine ⟨a, .dK ks, ha, True.intro, fun od => ⟨ρ.set i (some (.d (.ldc kvs))), upd G a (.frz od (.dK ks)), ?_, ?_⟩⟩
    · have at_ : ∀ (j : Nat) (w : W), (ρ.set i (some (.d (.ldc kvs))))[j]? = some (some w) → (j = i ∧ w = .d (.ldc kvs)) ∨ (j ≠ i ∧ ρ[j]? = some (some w)) := fun j w z => by
        by_cases hj : j = i
        · subst hj
          rw [List.getElem?_set_self hlt] at z
          cases z
          exact .inl ⟨rfl, rfl⟩
        · rw [List.getElem?_set_ne (Ne.symm hj)] at z
          exact .inr ⟨hj, z⟩
      refine ⟨by rw [List.length_set]; exact R.len, fun b o e => ?_, fun j w hj => ?_, fun j k x y u h1 h2 h3 h4 => ?_, R.floor.trans grow0, tabs_upd (fun u e => by rw [ha] at e; cases e; exact True.intro) R.tabs, fun b o e => ?_⟩
      · by_cases hb : b = a
        · rw [hb, upd_same] at e ⊢
          exact e
        · rw [upd_ne hb] at e ⊢
          exact R.sub b o e
      · rcases at_ j w hj with ⟨rfl, rfl⟩ | ⟨hne, hj'⟩
        · exact ⟨_, si, a, od, ks, rfl, upd_same, RKs.mono grow0 kvs ks rk⟩
        · obtain ⟨u, su, q⟩ := R.slot j w hj'
          refine ⟨u, su, q.mono grow0 fun x b e1 e2 => ?_⟩
          subst e1 e2
          obtain ⟨b', eb, gb, _⟩ := q
          cases eb
          have hb : b ≠ a := fun z => hne (R.dis j i x _ _ hj' ei su (by rw [si, z]))
          exact ⟨upd_ne hb, (upd_ne hb).trans gb⟩
      · rcases at_ j _ h1 with ⟨_, z⟩ | ⟨_, h1'⟩
        · cases z
        · rcases at_ k _ h2 with ⟨_, z⟩ | ⟨_, h2'⟩
          · cases z
          · exact R.dis j k x y u h1' h2' h3 h4
      · by_cases hb : b = a
        · rw [hb, upd_same] at e
          cases e
          exact fun ps z => nomatch z
        · rw [upd_ne hb] at e
          exact R.ntb b o e
    · have go' : GoS X.K X.mg Wx io σ ρ H G (match m (ρ.set i (some (.d (.ldc kvs)))) with
        | .ok .nx ρ' => if noLkR i ρ' = true then .ok .nx (ρ'.set i (some (.own (.dct kvs)))) else .bad
        | _ => .bad) En := go
      cases em : m (ρ.set i (some (.d (.ldc kvs)))) with
      | bad => rw [em] at go'; exact go'.elim
      | exc c fs ρ' => rw [em] at go'; exact go'.elim
      | ok f ρ' =>
        rw [em] at go'
        cases f with
        | brk => exact go'.elim
        | cont => exact go'.elim
        | ret w => exact go'.elim
        | nx =>
          have go2 : GoS X.K X.mg Wx io σ ρ H G (if noLkR i ρ' = true then .ok .nx (ρ'.set i (some (.own (.dct kvs)))) else .bad) En := go'
          split at go2
          · rename_i hno
            intro σ' H' G' R' F'
            have g'a : G' a = some (.frz od (.dK ks)) := F'.grow a _ upd_same
            have h'a := R'.sub a _ g'a
            refine ⟨h'a, ?_⟩
            have hlt' : i < ρ'.length := by
              rw [R'.len, F'.len, ← R.len]
              exact hlt
            have s'i : σ'[i]? = some (some (.ref a)) := (F'.fix i List.mem_cons_self).trans si
            have no_ : ∀ (j : Nat) (w : W), j ≠ i → ρ'[j]? = some (some w) → noLk w.data = true := fun j w hj e => by
              have z := List.all_eq_true.mp hno (some w) (List.mem_of_getElem? (by rw [List.getElem?_set_ne (Ne.symm hj)]; exact e))
              exact z
            have grow2 : SubH G (without a G') := fun b o e => by
              have hb : b ≠ a := fun z => by rw [z, ga] at e; cases e
              exact (if_neg hb).trans (F'.grow b o ((upd_ne hb).trans e))
            have at_ : ∀ (j : Nat) (w : W), (ρ'.set i (some (.own (.dct kvs))))[j]? = some (some w) → (j = i ∧ w = .own (.dct kvs)) ∨ (j ≠ i ∧ ρ'[j]? = some (some w)) := fun j w z => by
              by_cases hj : j = i
              · subst hj
                rw [List.getElem?_set_self hlt'] at z
                cases z
                exact .inl ⟨rfl, rfl⟩
              · rw [List.getElem?_set_ne (Ne.symm hj)] at z
                exact .inr ⟨hj, z⟩
            have ownNe : ∀ {j : Nat} {x : D} {b : Addr}, ρ'[j]? = some (some (.own x)) → σ'[j]? = some (some (.ref b)) → b ≠ a := fun {j x b} e1 e2 z => by
              obtain ⟨u, su, b', eb, gb, ro⟩ := R'.slot j _ e1
              rw [e2] at su
              cases su
              cases eb
              rw [z, g'a] at gb
              cases gb
            refine go2 σ' _ (without a G') ⟨by rw [List.length_set]; exact R'.len, fun b o e => ?_, fun j w hj => ?_, fun j k x y u h1 h2 h3 h4 => ?_, R.floor.trans grow2, tabs_updK (fun u e => by rw [h'a] at e; cases e; exact True.intro) R'.tabs, fun b o e => ?_⟩
              ⟨grow2, fun b o hb kp hg hn => ?_, fun j hj => F'.fix j (List.mem_cons_of_mem _ hj), F'.len⟩
            · have hb : b ≠ a := fun z => by
                rw [z, show without a G' a = none from if_pos rfl] at e
                cases e
              rw [show without a G' b = G' b from if_neg hb] at e
              rw [upd_ne hb]
              exact R'.sub b o e
            · rcases at_ j w hj with ⟨rfl, rfl⟩ | ⟨hne, hj'⟩
              · exact ⟨_, s'i, a, rfl, if_pos rfl, ks, upd_same, RKs.mono grow2 kvs ks rk⟩
              · obtain ⟨u, su, q⟩ := R'.slot j w hj'
                refine ⟨u, su, ?_⟩
                have hno' := no_ j w hne hj'
                cases w with
                | d x => exact RV.without g'a x u hno' q
                | own x =>
                  obtain ⟨b, eb, gb, ro⟩ := q
                  subst eb
                  have hb := ownNe hj' su
                  refine ⟨b, rfl, (if_neg hb).trans gb, ?_⟩
                  cases x with
                  | lst ds => obtain ⟨xs, h1, h2⟩ := ro; exact ⟨xs, (upd_ne hb).trans h1, RVs.without g'a ds xs hno' h2⟩
                  | dct kv => obtain ⟨xs, h1, h2⟩ := ro; exact ⟨xs, (upd_ne hb).trans h1, RKs.without g'a kv xs hno' h2⟩
                  | _ => exact ro.elim
            · rcases at_ j _ h1 with ⟨ej, _⟩ | ⟨hj, h1'⟩
              · rcases at_ k _ h2 with ⟨ek, _⟩ | ⟨hk, h2'⟩
                · exact ej.trans ek.symm
                · exfalso
                  rw [ej, s'i] at h3
                  cases h3
                  exact ownNe h2' h4 rfl
              · rcases at_ k _ h2 with ⟨ek, _⟩ | ⟨hk, h2'⟩
                · exfalso
                  rw [ek, s'i] at h4
                  cases h4
                  exact ownNe h1' h3 rfl
                · exact R'.dis j k x y u h1' h2' h3 h4
            · have hb : b ≠ a := fun z => by
                rw [z, show without a G' a = none from if_pos rfl] at e
                cases e
              rw [show without a G' b = G' b from if_neg hb] at e
              exact R'.ntb b o e
            · have hba : b ≠ a := fun z => hn ⟨i, _, ei, by rw [si, z]⟩
              have n0 : ¬ OwnS σ (ρ.set i (some (.d (.ldc kvs)))) b := fun ⟨j, x, e1, e2⟩ => by
                by_cases hj : j = i
                · subst hj
                  rw [List.getElem?_set_self hlt] at e1
                  cases e1
                · rw [List.getElem?_set_ne (Ne.symm hj)] at e1
                  exact hn ⟨j, x, e1, e2⟩
              obtain ⟨k1, k2, k3⟩ := F'.keep b o ((upd_ne hba).trans hb) kp ((upd_ne hba).trans hg) n0
              refine ⟨(upd_ne hba).trans k1, (if_neg hba).trans k2, fun ⟨j, x, e1, e2⟩ => ?_⟩
              rcases at_ j _ e1 with ⟨ej, _⟩ | ⟨hj, e1'⟩
              · rw [ej, s'i] at e2
                cases e2
                exact hba rfl
              · exact k3 ⟨j, x, e1', e2⟩
          · exact go2.elim
  · exact go.elim
end FL
set_option Elab.async false
set_option linter.all false
set_option maxRecDepth 100000
set_option maxHeartbeats 2000000
namespace FL
open PySem PySem.Spec L2
open PyProof.Rows hiding St
/-- what is known of a global name -/
inductive GE where
  | fn (F : FnSem) (sig : List Bool) | fnL (F : (D → FR) → FnSem) (sig : List Bool) | con (d : D) | bB (id : String) | bT (T : String) | gF (id : String) | ex (cn : Str) (flds : List Str)
/-- what the maker of lambdas knows: its cells, the lambdas' names, what they may call -/
structure MkI where
  cl : List (Str × Addr)
  q : Str
  gl : List (Str × GE)
/-- what is known of a context: its names, its scope, the slots that are never stored, the globals; all: every name's cell was made here; act: what the lambdas handed in answer -/
structure Sc where
  N : List Str
  sc : Scope
  io : List Nat
  all : Bool
  gl : List (Str × GE)
  lim : Nat
  act : D → FR := fun _ => .bad
  lm : Option MkI := none
  cls : List (Str × List Str) := []
  dl : List Str := []
def GOk (P : Program) (w : World) (K : PySem.W.Frag) (mg : Str → Option Value) (base : Heap) (k : Nat) (x : Str) : GE → Prop
  | .fn F sig => ∃ f fd ps, mg x = some (.ref f) ∧ PySem.W.keepIn K (.ref f) = true ∧ FnG P w K mg base k f fd ps F ∧ Binds K fd ps []
  | .fnL F sig => ∃ f fd ps, mg x = some (.ref f) ∧ PySem.W.keepIn K (.ref f) = true ∧ FnL P w K mg base k f fd ps F ∧ Binds K fd ps []
  | .con d => ∃ u v, mg x = some u ∧ RelV v u ∧ RV K mg (fun _ => none) d v
  | .bB id => mg x = none ∧ bootBuiltins x = some (.builtin id)
  | .bT T => mg x = none ∧ bootBuiltins x = some (.type T)
  | .gF id => mg x = some (.builtin id)
  | .ex cn flds => ∃ C fI fd j, j + 1 ≤ k ∧ mg x = some (.ref C) ∧ mg cn = some (.ref C) ∧ OexC K C ∧ PySem.W.findIn K (.ref C) "__init__" = some (some (.ref fI)) ∧ PySem.W.typeIn K (.ref fI) = some (.type "function") ∧
      FnOk P w K mg base (L2.CX P w) j fI fd ("self" :: flds) (spI C flds) ∧ Binds K fd ("self" :: flds) [] ∧ flds.length ≤ 900 ∧ XfC K C ∧ ∀ f ∈ flds, PySem.W.findIn K (.ref C) f = some none
/-- the classes that are told stand to each other as told -/
def ClsOk (K : PySem.W.Frag) (mg : Str → Option Value) (c : Sc) : Prop := ∀ y anc, c.cls.lookup y = some anc → ∀ x cn flds, c.gl.lookup x = some (.ex cn flds) → ∀ C0 C, mg y = some (.ref C0) → mg cn = some (.ref C) → PySem.W.exmOne K (.ref C0) (.ref C) = some (anc.contains cn)
structure OkC (c : Sc) (k : Nat) (X : Cx) : Prop where
  N : X.N = c.N
  nd : c.N.Nodup
  sc : X.env.scope = c.sc
  calm : X.calm = true
  hu : X.A.units + 200 < cLine
  gd : X.A.guards = some []
  room : Room k X.A
  gl : ∀ x e, c.gl.lookup x = some e → GOk X.prog X.w X.K X.mg X.base k x e
  fn : c.all = true → ∀ x, X.fn x = true
  cls : ClsOk X.K X.mg c
/-- a maker's own -/
structure MkOk (m : MkI) (X : Cx) (fl : Flr) : Prop where
  cells : X.env.cells = m.cl
  qual : X.env.qual ++ "<lambda>" = m.q
  code : ∃ cd P, X.env.code = .ref cd ∧ LamX.TabB X.base X.mg cd P ∧ (P, m.q) ∈ fl.T ∧ ∀ p ∈ fl.T, p.1 = P → p.2 = m.q
  fn : ∀ x, X.fn x = true
  gl : ∀ x e, m.gl.lookup x = some e → GOk X.prog X.w X.K X.mg X.base (KL - 1) x e
/-- what is known of the wishes, the lambdas -/
structure Tk (c : Sc) (k : Nat) (X : Cx) (Wx : WG) : Prop where
  tk : Takes X Wx.w
  act : LamVs X.prog X.w X.K X.mg X.base Wx.fl c.act ∧ ((c.act = fun _ => .bad) ∨ KL ≤ k)
  lm : ∀ m, c.lm = some m → MkOk m X Wx.fl ∧ KL ≤ k
def isStar : Expr → Bool
  | .Starred .. => true
  | _ => false
def noStars : List Expr → Bool
  | [] => true
  | e :: es => !isStar e && noStars es
def isComp : Expr → Bool
  | .ListComp .. => true
  | .SetComp .. => true
  | .DictComp .. => true
  | _ => false
def isSet : Expr → Bool
  | .Set .. => true
  | _ => false
def plainT : Expr → Bool
  | .UnaryOp .Not _ _ => false
  | .BoolOp .. => false
  | .IfExp .. => false
  | .Compare .. => false
  | _ => true
def okName (x : Str) : Bool := !(x == ("__debug__" : Str)) && !(x == ("__classdict__" : Str)) && !(x == ("__name__" : Str))
def slotIx (N : List Str) (x : Str) : Option Nat := (List.range N.length).find? fun i => N[i]? == some x
def visB (c : Sc) (x : Str) : Bool := c.sc.names.lookup x == some .local || c.sc.names.lookup x == some .cell || c.sc.names.lookup x == some .free
def locB (c : Sc) (x : Str) : Bool := c.sc.names.lookup x == some .local || (c.all && c.sc.names.lookup x == some .cell)
def glB (c : Sc) (x : Str) : Bool := c.sc.names.lookup x == some .globalImplicit
theorem star_cons {e : Expr} {es : List Expr} {env : Env} (h : isStar e = false) : starEach (e :: es) env = (false, eval e env) :: starEach es env := by
  cases e <;> first
    | rfl
    | cases h
theorem plain_any {pos : Pos} {env : Env} : ∀ {es : List Expr}, noStars es = true → (backTo pos (starEach es env)).any (·.1) = false
  | [], _ => rfl
  | e :: es, h => by
    have h' : (!isStar e && noStars es) = true := h
    rw [Bool.and_eq_true] at h'
    rw [star_cons (by simpa using h'.1)]
    show (false || (backTo pos (starEach es env)).any (·.1)) = false
    rw [Bool.false_or]
    exact plain_any h'.2
theorem plainT_ok {e : Expr} {env : Env} (h : plainT e = true) (whole : Sem Value) : isTrue e env whole = (do let v ← whole; standAt e.pos; holding [v] (truthy v)) := by
  cases e <;> first
    | rfl
    | cases h
    | (rename_i op _ _; cases op <;> first | rfl | cases h)
theorem set_ok {e : Expr} {env : Env} (h : isSet e = false) (x : Value) : foldedSetIterable e env x = pure x := by
  cases e <;> first
    | rfl
    | cases h
theorem plainIx_ok {e : Expr} (h : noSlice e = true) : PlainIx e := fun o i => by
  cases e <;> first
    | rfl
    | cases h
theorem slotIx_ok {N : List Str} {x : Str} {i : Nat} (h : slotIx N x = some i) : N[i]? = some x := by
  have := List.find?_some h
  exact eq_of_beq this
section
variable {c : Sc} {X : Cx} {k : Nat} {x : Str}
theorem visB_ok (O : OkC c k X) (h : visB c x = true) : Vis X.env.scope x := by
  unfold visB at h
  rw [Bool.or_eq_true, Bool.or_eq_true] at h
  unfold Vis
  rw [O.sc]
  rcases h with (h | h) | h
  · exact .inl (eq_of_beq h)
  · exact .inr (.inl (eq_of_beq h))
  · exact .inr (.inr (eq_of_beq h))
theorem locB_ok (O : OkC c k X) (h : locB c x = true) : Loc X.env.scope x ∧ (X.fn x = true ∨ X.env.scope.names.lookup x = some .local) := by
  unfold locB at h
  rw [Bool.or_eq_true, Bool.and_eq_true] at h
  unfold L2.Loc
  rw [O.sc]
  rcases h with h | ⟨h1, h2⟩
  · exact ⟨.inl (eq_of_beq h), .inr (eq_of_beq h)⟩
  · exact ⟨.inr (eq_of_beq h2), .inl (O.fn h1 x)⟩
theorem glB_ok (O : OkC c k X) (h : glB c x = true) : Gl X x := by
  show X.env.scope.names.lookup x = _
  rw [O.sc]
  exact eq_of_beq h
theorem okName_ok (h : okName x = true) : (x == ("__debug__" : Str)) = false ∧ (x == ("__classdict__" : Str)) = false ∧ x ≠ "__name__" := by
  unfold okName at h
  rw [Bool.and_eq_true, Bool.and_eq_true] at h
  obtain ⟨⟨h1, h2⟩, h3⟩ := h
  exact ⟨by simpa using h1, by simpa using h2, by simpa using h3⟩
end
def badM {α : Type} : M α := fun _ => .bad
section
variable {X : Cx} {Wx : WG} {e : Expr}
theorem pm_bad : PM X Wx e badM := ⟨fun pins s σ H Q I h => let ⟨_, _, _, z⟩ := h; False.elim z⟩
theorem pma_bad : PMA X Wx e badM := ⟨fun pins s σ H Q I h => let ⟨_, _, _, z⟩ := h; False.elim z⟩
theorem pmb_bad : PMB X Wx e badM := ⟨fun pins s σ H Q I h => let ⟨_, _, _, z⟩ := h; False.elim z⟩
theorem pml_bad {es : List Expr} : PML X Wx es badM := ⟨fun pos pins s σ H Q I h => let ⟨_, _, _, z⟩ := h; False.elim z⟩
theorem pmas_bad {es : List Expr} : PMAs X Wx es badM := ⟨fun pos pins s σ H Q I h => let ⟨_, _, _, z⟩ := h; False.elim z⟩
theorem pmi_bad {tg : Expr} : PMI X Wx tg e badM := ⟨fun pins s σ H Rk I h => let ⟨_, _, _, z⟩ := h; False.elim z⟩
theorem pwb_bad : PWB X Wx e badM := ⟨fun wh pins s σ H Q I h => let ⟨_, _, _, z⟩ := h; False.elim z⟩
end
structure Cm where
  E : Sc → Expr → M W
  A : Sc → Expr → M A
  B : Sc → Expr → M Bool
def asL (f : Expr → M A) : List Expr → M (List A)
  | [] => nilA
  | e :: es => if isStar e = true then badM else consA (f e) (asL f es)
def dsL (f : Expr → M W) : List Expr → M (List D)
  | [] => nilL
  | e :: es => if isStar e = true then badM else consL (f e) (dsL f es)
def sigL (f : Expr → M W) (g : Expr → M A) : List Bool → List Expr → M (List A)
  | b :: bs, e :: es => if isStar e = true then badM else consA (if b = true then g e else datA (f e)) (sigL f g bs es)
  | [], [] => nilA
  | _, _ => badM
def phiB (id : String) : Option (List D → Option W) :=
  if id = "len" then some lenW else if id = "abs" then some absW else if id = "max" then some max2W else if id = "min" then some min2W else if id = "all" then some allW else
  if id = "any" then some anyW else if id = "repr" then some reprW else if id = "isinstance" then some isiW else if id = "math.gcd" then some gcdW else none
def phiT (id : String) : Option (List D → Option W) :=
  if id = "int" then some intW else if id = "list" then some listW else if id = "tuple" then some tupleW else none
theorem phiB_ok {X : Cx} {id : String} {φ : List D → Option W} (hc : X.calm = true) (hg : X.A.guards = some []) (hu : X.A.units + 200 < cLine) (h : phiB id = some φ) : CallR X (.builtin id) (rPn X.K X.mg φ) := by
  unfold phiB at h
  repeat (first
    | (split at h; (rename_i e; subst e; cases h; first | exact call_lenP | exact call_absP | exact call_maxP hc | exact call_minP hc | exact call_allP hc | exact call_anyP hc | exact call_reprP hg hu | exact call_isiP | exact call_gcdP))
    | cases h)
theorem phiT_ok {X : Cx} {id : String} {φ : List D → Option W} (h : phiT id = some φ) : CallR X (.type id) (rPn X.K X.mg φ) := by
  unfold phiT at h
  repeat (first
    | (split at h; (rename_i e; subst e; cases h; first | exact call_intP | exact call_listP | exact call_tupleP))
    | cases h)
end FL
set_option Elab.async false
set_option linter.all false
set_option maxRecDepth 100000
set_option maxHeartbeats 2000000
namespace FL
open PySem PySem.Spec L2
open PyProof.Rows hiding St
section
variable (cm : Cm) (c : Sc)
def nameE (x : Str) : M W := if okName x = true then
    (if visB c x = true then match slotIx c.N x with
      | some i => slotM i
      | none => badM
    else if glB c x = true then match c.gl.lookup x with
      | some (.con d) => constM d
      | some (.bT T) => constM (.ty T)
      | _ => badM
    else badM) else badM
def nameA (x : Str) : M A := if okName x = true then
    (if visB c x = true then match slotIx c.N x with
      | some i => slotA i
      | none => badM
    else datA (nameE c x)) else badM
/-- the lambdas of this frame: their context, their answers, how they are made -/
def lamSc (m : MkI) (scope : Scope) : Sc := { N := c.N, sc := scope, io := [], all := false, gl := m.gl, lim := c.lim }
def lamA (m : MkI) : Rho → D → FR := fun ρ d => match d with
  | .clo cl lc => if cl = cloFrom m.cl lc.scope.names [] ∧ lc.qual = m.q ∧ LamX.lamSB c.sc lc.scope = true ∧ noPar lc.params = true then lamFR (cm.E (lamSc c m lc.scope) lc.body (ρ.map dropW)) else .bad
  | _ => .bad
def capt (scope : Scope) : List Nat := scope.names.filterMap fun y => if (y.2 == .free) = true then slotIx c.N y.1 else none
def lamE (params : Arguments) (body : Expr) (scope : Scope) : M W := match c.lm with
  | some m => if (LamX.lamSB c.sc scope && noPar params) = true then lamM m.cl m.q (capt c scope) params body scope else badM
  | none => badM
def actE (x : Str) : M W := if (okName x && visB c x) = true then match slotIx c.N x with
    | some i => actM c.act i
    | none => badM
  else badM
def callE (x : Str) (es : List Expr) : M W := if (okName x && glB c x && noStars es) = true then
    match c.gl.lookup x with
    | some (.fn F sig) => callM F (sigL (cm.E c) (cm.A c) sig es)
    | some (.fnL F sig) => match c.lm, es with
      | none, es => callM (F c.act) (sigL (cm.E c) (cm.A c) sig es)
      | some m, e :: es => callL F (lamA cm c m) (sigL (cm.E c) (cm.A c) sig (e :: es))
      | _, _ => badM
    | some (.bB id) => match es, phiB id with
      | _ :: _, some φ => bcM φ (asL (cm.A c) es)
      | _, _ => badM
    | some (.bT T) => match es, phiT T with
      | _ :: _, some φ => bcM φ (asL (cm.A c) es)
      | _, _ => badM
    | some (.gF id) => match es, phiB id with
      | _ :: _, some φ => bcM φ (asL (cm.A c) es)
      | _, _ => badM
    | _ => badM
  else badM
def orE : List Expr → M W
  | [] => badM
  | [a] => cm.E c a
  | a :: b :: rest => orM (cm.E c a) (orE (b :: rest))
def andE : List Expr → M W
  | [] => badM
  | [a] => cm.E c a
  | a :: b :: rest => andM (cm.E c a) (andE (b :: rest))
def orT : List Expr → M Bool
  | [] => badM
  | [a] => cm.B c a
  | a :: b :: rest => orB (cm.B c a) (orT (b :: rest))
def andT : List Expr → M Bool
  | [] => badM
  | [a] => cm.B c a
  | a :: b :: rest => andB (cm.B c a) (andT (b :: rest))
def cmpE (a : Expr) (ops : List CmpOp) (bs : List Expr) : M W := match ops, bs with
  | [op], [b] => if behindInMarks op b = true then badM else cmpM op (cm.A c a) (cm.A c b)
  | [op, op'], [b, d] => if behindInMarks op' d = true then badM else chainM op op' (cm.A c a) (cm.A c b) (cm.A c d)
  | _, _ => badM
def cmpT (a : Expr) (ops : List CmpOp) (bs : List Expr) : M Bool := match ops, bs with
  | [op], [b] => if behindInMarks op b = true then badM else boolM (cmpM op (cm.A c a) (cm.A c b))
  | [op, op'], [b, d] => if behindInMarks op' d = true then badM else boolM (chainM op op' (cm.A c a) (cm.A c b) (cm.A c d))
  | _, _ => badM
def partO (e : Option Expr) : M (Option Int) := match e with
  | none => noPart
  | some e => partM (cm.E c e)
def subE (a i : Expr) : M W := match i with
  | .Slice lo hi none _ => slM (cm.A c a) (partO cm c lo) (partO cm c hi)
  | .Slice lo hi (some st) _ => slSM (cm.A c a) (partO cm c lo) (partO cm c hi) (partM (cm.E c st))
  | i => if noSlice i = true then ixM (cm.A c a) (cm.A c i) else badM
def methE (o : Expr) (name : Str) (es : List Expr) : M W := match o, es with
  | .Name x _, [e] => if (okName x && visB c x && name == ("append" : Str) && !isStar e) = true then
      match slotIx c.N x with
      | some i => appM i (cm.E c e)
      | none => badM
    else badM
  | .Name x _, [] => if (okName x && visB c x && name == ("pop" : Str)) = true then
      match slotIx c.N x with
      | some i => popM i
      | none => badM
    else badM
  | .Call _ (_ :: _) _ _, [] => if name == ("bit_length" : Str) then bitsM (cm.A c o) else badM
  | _, _ => badM
def keyOf : Expr → Option Key
  | .Constant (.str x) _ _ => some (.inr x)
  | .Constant (.int i) _ _ => some (.inl i)
  | _ => none
def dictKs : List (Option Expr) → List Expr → Option (List (Key × M W))
  | [], [] => some []
  | some k :: ks, v :: vs => match keyOf k, dictKs ks vs with
    | some y, some r => some ((y, cm.E c v) :: r)
    | _, _ => none
  | _, _ => none
def dictE (keys : List (Option Expr)) (values : List Expr) : M W := match keys with
  | [] => if values.isEmpty = true then dct0M else badM
  | k :: ks => match dictKs cm c (k :: ks) values with
    | some r => if decide (r.length ≤ 15) = true then dictM r else badM
    | none => badM
/-- targets: names, tuples of names -/
def nameT (x : Str) : D → M Unit := match slotIx c.N x with
  | some i => if locB c x = true then nameG c.io i else fun _ => badM
  | none => fun _ => badM
def tgt1 (e : Expr) : D → M Unit := match e with
  | .Name x _ => nameT c x
  | _ => fun _ => badM
def tgts (f : Expr → D → M Unit) : List Expr → List D → M Unit
  | [] => nilG
  | e :: es => consG (f e) (tgts f es)
def tgt2 (e : Expr) : D → M Unit := match e with
  | .Tuple es _ _ => if noStars es = true then tupG es.length (tgts (tgt1 c) es) else fun _ => badM
  | e => tgt1 c e
def tgt (e : Expr) : D → M Unit := match e with
  | .Tuple es _ _ => if noStars es = true then tupG es.length (tgts (tgt2 c) es) else fun _ => badM
  | e => tgt1 c e
def isTupE : Expr → Bool
  | .Tuple .. => true
  | _ => false
def iterI (tg it : Expr) : M (List D) := match it with
  | .Call (.Name x _) [a] [] _ =>
    if (x == ("range" : Str) && glB c x && !isStar a) = true then match c.gl.lookup x with
      | some (.bT _) => iterL range1D (dsL (cm.E c) [a])
      | _ => badM
    else if (x == ("enumerate" : Str) && glB c x && !isStar a && isTupE tg) = true then match c.gl.lookup x with
      | some (.bT _) => iterL enumD (dsL (cm.E c) [a])
      | _ => badM
    else iterM (cm.E c it)
  | .Call (.Name x _) [a, b] [] _ =>
    if (x == ("range" : Str) && glB c x && !isStar a && !isStar b) = true then match c.gl.lookup x with
      | some (.bT _) => iterL range2D (dsL (cm.E c) [a, b])
      | _ => badM
    else if (x == ("zip" : Str) && glB c x && !isStar a && !isStar b && isTupE tg) = true then match c.gl.lookup x with
      | some (.bT _) => iterL zipD (dsL (cm.E c) [a, b])
      | _ => badM
    else iterM (cm.E c it)
  | it => iterM (cm.E c it)
def ownOf (N : List Str) : List (Str × NameKind) → List (Str × Nat)
  | [] => []
  | (x, k) :: r => if (k == .local || k == .cell) = true then match slotIx N x with
      | some i => (x, i) :: ownOf N r
      | none => ownOf N r
    else ownOf N r
def blkB (N : List Str) (sc scope : Scope) : Bool :=
  decide (scope.kind = .function) && scope.names.all (fun y => scope.names.lookup y.1 == some y.2) && scope.names.all (fun y => !(y.2 == .free) || sc.names.lookup y.1 == some .cell || sc.names.lookup y.1 == some .free) &&
    scope.names.all (fun y => !(y.2 == .local || y.2 == .cell) || (ownOf N scope.names).any (fun p => p.1 == y.1) || !(N.contains y.1))
def inner (scope : Scope) : Sc := { c with sc := relS scope c.sc, io := outs c.N.length ((ownOf c.N scope.names).map (·.2)), all := false, lm := none }
def ifsT (ifs : List Expr) (d : Sc) : M Bool := match ifs with
  | [] => yesM
  | [t] => cm.B d t
  | _ => badM
def compE (elt : Expr) (gs : List Comprehension) (scope : Scope) : M W := match gs with
  | [⟨tg, it, ifs, 0⟩] => if (blkB c.N c.sc scope && !isSet it) = true then
      lcM (iterI cm c tg it) (tgt (inner c scope) tg) (ifsT cm ifs (inner c scope)) (cm.E (inner c scope) elt) ((ownOf c.N scope.names).map (·.2))
    else badM
  | _ => badM
def stepE (e : Expr) : M W := match e with
  | .Constant (.int i) _ _ => constM (.int i)
  | .Constant (.bool b) _ _ => constM (.bl b)
  | .Constant .none _ _ => constM .non
  | .Constant (.str x) _ _ => constM (.str x)
  | .Name x _ => nameE c x
  | .BinOp a op b _ => binM op (cm.A c a) (cm.A c b)
  | .UnaryOp .USub a _ => negM (cm.A c a)
  | .UnaryOp .Not a _ => notM (cm.A c a)
  | .BoolOp .Or es _ => orE cm c es
  | .BoolOp .And es _ => andE cm c es
  | .Compare a ops bs _ => cmpE cm c a ops bs
  | .IfExp t a b _ => ifM (cm.B c t) (cm.E c a) (cm.E c b)
  | .Tuple es _ _ => tupM (dsL (cm.E c) es)
  | .List es _ => lstM (dsL (cm.E c) es)
  | .Dict ks vs _ => dictE cm c ks vs
  | .Subscript a i _ => subE cm c a i
  | .Call (.Name x _) [] [] _ => if visB c x = true then actE c x else callE cm c x []
  | .Call (.Name x _) es [] _ => callE cm c x es
  | .Lambda params body scope _ => lamE c params body scope
  | .Call (.Attribute o name apos) es [] pos => if (apos.endLine == pos.line) = true then methE cm c o name es else badM
  | .ListComp elt gs scope _ => compE cm c elt gs scope
  | _ => badM
def stepA (e : Expr) : M A := match e with
  | .Name x _ => nameA c x
  | e => datA (stepE cm c e)
def stepB (e : Expr) : M Bool := match e with
  | .BoolOp .Or es _ => orT cm c es
  | .BoolOp .And es _ => andT cm c es
  | .UnaryOp .Not a _ => notB (cm.B c a)
  | .Compare a ops bs _ => cmpT cm c a ops bs
  | e => if plainT e = true then testM (stepA cm c e) else badM
end
def Cm.zero : Cm := ⟨fun _ _ => badM, fun _ _ => badM, fun _ _ => badM⟩
def Cm.next (cm : Cm) : Cm := ⟨stepE cm, stepA cm, stepB cm⟩
def cmN : Nat → Cm
  | 0 => Cm.zero
  | n + 1 => (cmN n).next
end FL
set_option Elab.async false
set_option linter.all false
set_option maxRecDepth 100000
set_option maxHeartbeats 2000000
namespace FL
open PySem PySem.Spec L2
open PyProof.Rows hiding St
structure CmOk (cm : Cm) : Prop where
  E : ∀ (c : Sc) (k : Nat) (X : Cx) (Wx : WG), OkC c k X → Tk c k X Wx → ∀ e, PM X Wx e (cm.E c e)
  A : ∀ (c : Sc) (k : Nat) (X : Cx) (Wx : WG), OkC c k X → Tk c k X Wx → ∀ e, PMA X Wx e (cm.A c e)
  B : ∀ (c : Sc) (k : Nat) (X : Cx) (Wx : WG), OkC c k X → Tk c k X Wx → ∀ e, PMB X Wx e (cm.B c e)
theorem CmOk.zero : CmOk Cm.zero := ⟨fun _ _ _ _ _ _ _ => pm_bad, fun _ _ _ _ _ _ _ => pma_bad, fun _ _ _ _ _ _ _ => pmb_bad⟩
section
variable {c : Sc} {k : Nat} {X : Cx} {Wx : WG}
theorem nameE_ok (O : OkC c k X) {x : Str} {pos : Pos} : PM X Wx (.Name x pos) (nameE c x) := by
  unfold nameE
  split
  · rename_i hn
    obtain ⟨h1, h2, h3⟩ := okName_ok hn
    split
    · rename_i hv
      split
      · rename_i i hi
        exact pm_slot (by rw [O.N]; exact slotIx_ok hi) (visB_ok O hv) h1 h2
      · exact pm_bad
    · split
      · rename_i hg
        split
        · rename_i d hl
          obtain ⟨u, v, e1, e2, e3⟩ := O.gl x _ hl
          exact pm_glob (glB_ok O hg) e1 e2 e3 h1
        · rename_i T hl
          obtain ⟨e1, e2⟩ := O.gl x _ hl
          exact pm_bltn (glB_ok O hg) e1 e2 h3 h1
        · exact pm_bad
      · exact pm_bad
  · exact pm_bad
theorem nameA_ok (O : OkC c k X) {x : Str} {pos : Pos} : PMA X Wx (.Name x pos) (nameA c x) := by
  unfold nameA
  split
  · rename_i hn
    obtain ⟨h1, h2, h3⟩ := okName_ok hn
    split
    · rename_i hv
      split
      · rename_i i hi
        exact pma_slot (by rw [O.N]; exact slotIx_ok hi) (visB_ok O hv) h1 h2
      · exact pma_bad
    · exact pma_of (nameE_ok O)
  · exact pma_bad
theorem asL_ok {f : Expr → M A} (h : ∀ e, PMA X Wx e (f e)) : ∀ es, PMAs X Wx es (asL f es)
  | [] => pmas_nil
  | e :: es => by
    unfold asL
    split
    · exact pmas_bad
    · rename_i hs
      exact pmas_cons (h e) (asL_ok h es) (star_cons (by simpa using hs))
theorem dsL_ok {f : Expr → M W} (h : ∀ e, PM X Wx e (f e)) : ∀ es, PML X Wx es (dsL f es)
  | [] => pml_nil
  | e :: es => by
    unfold dsL
    split
    · exact pml_bad
    · rename_i hs
      exact pml_cons (h e) (dsL_ok h es) (star_cons (by simpa using hs))
theorem sigL_ok {f : Expr → M W} {g : Expr → M A} (hf : ∀ e, PM X Wx e (f e)) (hg : ∀ e, PMA X Wx e (g e)) : ∀ bs es, PMAs X Wx es (sigL f g bs es)
  | [], [] => pmas_nil
  | [], _ :: _ => pmas_bad
  | _ :: _, [] => pmas_bad
  | b :: bs, e :: es => by
    unfold sigL
    split
    · exact pmas_bad
    · rename_i hs
      refine pmas_cons ?_ (sigL_ok hf hg bs es) (star_cons (by simpa using hs))
      split
      · exact hg e
      · exact pma_of (hf e)
variable {cm : Cm}
theorem lamA_ok (C : CmOk cm) (O : OkC c k X) (tk : Tk c k X Wx) {m : MkI} (hm : c.lm = some m) {pins : List (Addr × Obj)} {σ : St} {ρ : Rho} {H G : Hp} {s : Shared} (I : Inv X pins σ H s) (R : Rel X.K X.mg Wx.fl σ ρ H G) :
    LamVs X.prog X.w X.K X.mg X.base ⟨cup X.env.cells s.heap G, Wx.fl.T⟩ (lamA cm c m ρ) := by
  obtain ⟨mo, _⟩ := tk.lm m hm
  refine lamVs_mk I R fun d hd => ?_
  unfold lamA at hd
  split at hd
  · rename_i cl lc
    split at hd
    · rename_i h
      obtain ⟨h1, h2, h3, h4⟩ := h
      have L : LamX.LamS X.env.scope lc.scope := LamX.lamS_by (by rw [O.sc]; exact h3)
      refine ⟨lc, by rw [h1, ← mo.cells], h2.trans mo.qual.symm, L, h4, cm.E (lamSc c m lc.scope) lc.body, ?_, fun A outer s1 H1 E f c' fl' hr hg => ?_⟩
      · show lamA cm c m ρ (.clo cl lc) = _
        unfold lamA
        exact if_pos ⟨h1, h2, h3, h4⟩
      · have O' : OkC (lamSc c m lc.scope) (KL - 1) (LamX.lamCx X A outer s1 H1 E lc.scope f c') :=
          ⟨O.N, O.nd, rfl, rfl, by have := hr.un; show (A.deeper _).units + 200 < cLine; omega, hg, hr, mo.gl, (fun z => nomatch z), (fun _ _ z => nomatch z)⟩
        exact C.E _ _ _ _ O' ⟨lam_takes, ⟨lamVs_bad, .inl rfl⟩, fun _ z => nomatch z⟩ lc.body
    · exact absurd rfl hd
  · exact absurd rfl hd
theorem lamE_ok (O : OkC c k X) (tk : Tk c k X Wx) {params : Arguments} {body : Expr} {scope : Scope} {pos : Pos} : PM X Wx (.Lambda params body scope pos) (lamE c params body scope) := by
  unfold lamE
  split
  · rename_i m hm
    split
    · rename_i h
      rw [Bool.and_eq_true] at h
      obtain ⟨mo, _⟩ := tk.lm m hm
      obtain ⟨cd, P, e1, e2, e3, e4⟩ := mo.code
      rw [← mo.cells, ← mo.qual]
      rw [← mo.qual] at e3 e4
      exact pm_lam e2 e1 e3 e4 h.2 (LamX.lamS_by (by rw [O.sc]; exact h.1))
    · exact pm_bad
  · exact pm_bad
theorem actE_ok (O : OkC c k X) (tk : Tk c k X Wx) {x : Str} {p pos : Pos} : PM X Wx (.Call (.Name x p) [] [] pos) (actE c x) := by
  unfold actE
  split
  · rename_i h
    rw [Bool.and_eq_true] at h
    obtain ⟨h1, h2, h3⟩ := okName_ok h.1
    split
    · rename_i i hi
      rcases tk.act.2 with z | hk
      · rw [z]
        refine ⟨fun pins s σ H Q I h => ?_⟩
        obtain ⟨ρ, G, R, h⟩ := h
        unfold actM at h
        split at h <;> exact h.elim
      · exact pm_act tk.act.1 (O.room.mono hk) O.gd tk.tk (by rw [O.N]; exact slotIx_ok hi) (visB_ok O h.2) h1 h2
    · exact pm_bad
  · exact pm_bad
theorem callE_ok (C : CmOk cm) (O : OkC c k X) (tk : Tk c k X Wx) {x : Str} {p pos : Pos} {es : List Expr} : PM X Wx (.Call (.Name x p) es [] pos) (callE cm c x es) := by
  unfold callE
  split
  · rename_i h
    rw [Bool.and_eq_true, Bool.and_eq_true] at h
    obtain ⟨⟨hn, hg⟩, hs⟩ := h
    obtain ⟨h1, h2, h3⟩ := okName_ok hn
    have g := glB_ok O hg
    have one : ∀ {e : Expr} {r : List Expr}, es = e :: r → starEach (e :: r) X.env = (false, eval e X.env) :: starEach r X.env ∧ (backTo pos (starEach r X.env)).any (·.1) = false := fun {e r} ee => by
      rw [ee] at hs
      have hs' : (!isStar e && noStars r) = true := hs
      rw [Bool.and_eq_true] at hs'
      exact ⟨star_cons (by simpa using hs'.1), plain_any hs'.2⟩
    have own : ∀ {F : (D → FR) → FnSem} {Λ : D → FR} {sig : List Bool} {f : Addr} {fd : FuncData} {ps : List Str}, X.mg x = some (.ref f) → PySem.W.keepIn X.K (.ref f) = true → FnL X.prog X.w X.K X.mg X.base k f fd ps F → Binds X.K fd ps [] →
        LamVs X.prog X.w X.K X.mg X.base Wx.fl Λ → PM X Wx (.Call (.Name x p) es [] pos) (callM (F Λ) (sigL (cm.E c) (cm.A c) sig es)) := fun {F Λ sig f fd ps} e1 e2 e3 e4 lv => by
      cases es with
      | nil =>
        cases sig with
        | nil => exact pm_call0 e3 lv O.room O.gd g e1 e2 e4 tk.tk h1
        | cons b bs =>
          have : PM X Wx (.Call (.Name x p) [] [] pos) (callM (F Λ) badM) := ⟨fun pins s σ H Q I h => let ⟨_, _, _, z⟩ := h; False.elim z⟩
          exact this
      | cons e r =>
        obtain ⟨a1, a2⟩ := one rfl
        exact pm_call e3 lv O.room O.gd g e1 e2 e4 tk.tk (sigL_ok (C.E c k X Wx O tk) (C.A c k X Wx O tk) sig (e :: r)) h1 a1 a2
    split
    · rename_i F sig hl
      obtain ⟨f, fd, ps, e1, e2, e3, e4⟩ := O.gl x _ hl
      exact own (F := fun _ => F) (Λ := fun _ => .bad) e1 e2 e3 e4 lamVs_bad
    · rename_i F sig hl
      obtain ⟨f, fd, ps, e1, e2, e3, e4⟩ := O.gl x _ hl
      split
      · exact own (F := F) e1 e2 e3 e4 tk.act.1
      · rename_i m e r hm
        obtain ⟨a1, a2⟩ := one rfl
        exact pm_callL e3 (tk.lm m hm).1.fn (fun I R => lamA_ok C O tk hm I R) O.room O.gd g e1 e2 e4 tk.tk (sigL_ok (C.E c k X Wx O tk) (C.A c k X Wx O tk) sig (e :: r)) h1 a1 a2
      · exact pm_bad
    · rename_i id hl
      obtain ⟨e1, e2⟩ := O.gl x _ hl
      split
      · rename_i e r φ hp
        obtain ⟨a1, a2⟩ := one rfl
        exact pm_bcB (phiB_ok O.calm O.gd O.hu hp) g e1 e2 (asL_ok (C.A c k X Wx O tk) _) h3 h1 a1 a2
      · exact pm_bad
    · rename_i id hl
      obtain ⟨e1, e2⟩ := O.gl x _ hl
      split
      · rename_i e r φ hp
        obtain ⟨a1, a2⟩ := one rfl
        exact pm_bcT (phiT_ok hp) g e1 e2 (asL_ok (C.A c k X Wx O tk) _) h3 h1 a1 a2
      · exact pm_bad
    · rename_i id hl
      have e1 := O.gl x _ hl
      split
      · rename_i e r φ hp
        obtain ⟨a1, a2⟩ := one rfl
        exact pm_bcF (phiB_ok O.calm O.gd O.hu hp) g e1 (asL_ok (C.A c k X Wx O tk) _) h1 a1 a2
      · exact pm_bad
    · exact pm_bad
  · exact pm_bad
theorem orE_ok (C : CmOk cm) (O : OkC c k X) (tk : Tk c k X Wx) {pos : Pos} : ∀ es, PM X Wx (.BoolOp .Or es pos) (orE cm c es)
  | [] => pm_bad
  | [a] => pm_one (C.E c k X Wx O tk a)
  | a :: b :: rest => pm_or (C.E c k X Wx O tk a) (orE_ok C O tk (b :: rest))
theorem andE_ok (C : CmOk cm) (O : OkC c k X) (tk : Tk c k X Wx) {pos : Pos} : ∀ es, PM X Wx (.BoolOp .And es pos) (andE cm c es)
  | [] => pm_bad
  | [a] => pm_one (C.E c k X Wx O tk a)
  | a :: b :: rest => pm_and (C.E c k X Wx O tk a) (andE_ok C O tk (b :: rest))
theorem orT_ok (C : CmOk cm) (O : OkC c k X) (tk : Tk c k X Wx) {pos : Pos} : ∀ es, PWB X Wx (.BoolOp .Or es pos) (orT cm c es)
  | [] => pwb_bad
  | [a] => pwb_or1 (C.B c k X Wx O tk a)
  | a :: b :: rest => pwb_or (C.B c k X Wx O tk a) (orT_ok C O tk (b :: rest))
theorem andT_ok (C : CmOk cm) (O : OkC c k X) (tk : Tk c k X Wx) {pos : Pos} : ∀ es, PWB X Wx (.BoolOp .And es pos) (andT cm c es)
  | [] => pwb_bad
  | [a] => pwb_and1 (C.B c k X Wx O tk a)
  | a :: b :: rest => pwb_and (C.B c k X Wx O tk a) (andT_ok C O tk (b :: rest))
theorem cmpE_ok (C : CmOk cm) (O : OkC c k X) (tk : Tk c k X Wx) {pos : Pos} {a : Expr} {ops : List CmpOp} {bs : List Expr} : PM X Wx (.Compare a ops bs pos) (cmpE cm c a ops bs) := by
  have hu : X.A.units + 65 < cLine := by have := O.hu; omega
  unfold cmpE
  split
  · split
    · exact pm_bad
    · rename_i h
      exact pm_cmp hu (C.A c k X Wx O tk _) (C.A c k X Wx O tk _) (by simpa using h)
  · split
    · exact pm_bad
    · rename_i h
      exact pm_chain hu (C.A c k X Wx O tk _) (C.A c k X Wx O tk _) (C.A c k X Wx O tk _) (by simpa [lastMarks] using h)
  · exact pm_bad
theorem cmpT_ok (C : CmOk cm) (O : OkC c k X) (tk : Tk c k X Wx) {pos : Pos} {a : Expr} {ops : List CmpOp} {bs : List Expr} : PMB X Wx (.Compare a ops bs pos) (cmpT cm c a ops bs) := by
  have hu : X.A.units + 65 < cLine := by have := O.hu; omega
  unfold cmpT
  split
  · split
    · exact pmb_bad
    · rename_i h
      exact pmb_cmp hu (C.A c k X Wx O tk _) (C.A c k X Wx O tk _) (by simpa using h)
  · split
    · exact pmb_bad
    · rename_i h
      exact pmb_chain hu (C.A c k X Wx O tk _) (C.A c k X Wx O tk _) (C.A c k X Wx O tk _) (by simpa [lastMarks] using h)
  · exact pmb_bad
theorem partO_ok (C : CmOk cm) (O : OkC c k X) (tk : Tk c k X Wx) : ∀ e, PMO X Wx e (partO cm c e)
  | none => pmo_none
  | some e => pmo_some (C.E c k X Wx O tk e)
theorem subE_ok (C : CmOk cm) (O : OkC c k X) (tk : Tk c k X Wx) {pos : Pos} {a i : Expr} : PM X Wx (.Subscript a i pos) (subE cm c a i) := by
  have hu : X.A.units + 1 < cLine := by have := O.hu; omega
  unfold subE
  split
  · exact pm_sl (C.A c k X Wx O tk _) (partO_ok C O tk _) (partO_ok C O tk _)
  · exact pm_slS (C.A c k X Wx O tk _) (partO_ok C O tk _) (partO_ok C O tk _) (pmo_some (C.E c k X Wx O tk _))
  · split
    · rename_i h
      exact pm_ix hu (C.A c k X Wx O tk _) (C.A c k X Wx O tk _) (plainIx_ok h)
    · exact pm_bad
theorem methE_ok (C : CmOk cm) (O : OkC c k X) (tk : Tk c k X Wx) {apos pos : Pos} {o : Expr} {name : Str} {es : List Expr} (hl : (apos.endLine == pos.line) = true) : PM X Wx (.Call (.Attribute o name apos) es [] pos) (methE cm c o name es) := by
  unfold methE
  split
  · rename_i x p e
    split
    · rename_i h
      rw [Bool.and_eq_true, Bool.and_eq_true, Bool.and_eq_true] at h
      obtain ⟨⟨⟨hn, hv⟩, hm⟩, hs⟩ := h
      obtain ⟨h1, h2, h3⟩ := okName_ok hn
      have em := eq_of_beq hm
      subst em
      split
      · rename_i i hi
        exact pm_append (by rw [O.N]; exact slotIx_ok hi) (visB_ok O hv) h1 h2 (C.E c k X Wx O tk e) (star_cons (by simpa using hs)) hl
      · exact pm_bad
    · exact pm_bad
  · rename_i x p
    split
    · rename_i h
      rw [Bool.and_eq_true, Bool.and_eq_true] at h
      obtain ⟨⟨hn, hv⟩, hm⟩ := h
      obtain ⟨h1, h2, h3⟩ := okName_ok hn
      have em := eq_of_beq hm
      subst em
      split
      · rename_i i hi
        exact pm_pop (by rw [O.N]; exact slotIx_ok hi) (visB_ok O hv) h1 h2 hl
      · exact pm_bad
    · exact pm_bad
  · rename_i f e r kw p
    split
    · rename_i h
      have em := eq_of_beq h
      subst em
      exact pm_bits (C.A c k X Wx O tk _) (by cases f <;> rfl) hl
    · exact pm_bad
  · exact pm_bad
theorem keyOf_ok {e : Expr} {y : Key} (h : keyOf e = some y) : PE X e (tC (kV y)) := by
  unfold keyOf at h
  split at h
  · cases h; exact pe_str
  · cases h; exact pe_int
  · cases h
theorem dictKs_ok (C : CmOk cm) (O : OkC c k X) (tk : Tk c k X Wx) {pos : Pos} : ∀ {ks : List (Option Expr)} {vs : List Expr} {r : List (Key × M W)}, dictKs cm c ks vs = some r → PPs X pos ks vs (trsOf X.K X.mg Wx r) ∧ ks.all (·.isSome) = true ∧ ks.length = vs.length ∧ ks.length = r.length
  | [], [], r, h => by
    have e : ([] : List (Key × M W)) = r := Option.some.inj h
    subst e
    exact ⟨pps_nil, rfl, rfl, rfl⟩
  | some e :: ks, v :: vs, r, h => by
    unfold dictKs at h
    split at h
    · rename_i y r' h1 h2
      have e := Option.some.inj h
      subst e
      obtain ⟨a1, a2, a3, a4⟩ := dictKs_ok C O tk (pos := pos) h2
      exact ⟨pps_cons (keyOf_ok h1) (C.E c k X Wx O tk v) a1, by rw [List.all_cons, a2]; rfl, by rw [List.length_cons, List.length_cons, a3], by rw [List.length_cons, List.length_cons, a4]⟩
    · cases h
  | none :: _, _, _, h => by cases h
  | some _ :: _, [], _, h => by cases h
  | [], _ :: _, _, h => by cases h
theorem dictE_ok (C : CmOk cm) (O : OkC c k X) (tk : Tk c k X Wx) {pos : Pos} {ks : List (Option Expr)} {vs : List Expr} : PM X Wx (.Dict ks vs pos) (dictE cm c ks vs) := by
  unfold dictE
  split
  · split
    · rename_i h
      cases vs with
      | nil => exact pm_dct0
      | cons _ _ => cases h
    · exact pm_bad
  · split
    · rename_i r hr
      split
      · rename_i h15
        obtain ⟨a1, a2, a3, a4⟩ := dictKs_ok C O tk (pos := pos) hr
        have l := of_decide_eq_true h15
        exact pm_dict a1 a2 a3 (by simp) (by rw [a4]; exact l) l
      · exact pm_bad
    · exact pm_bad
def nofail (g : D → M Unit) : Prop := ∀ d ρ a fs ρ', g d ρ ≠ .exc a fs ρ'
end
end FL
set_option Elab.async false
set_option linter.all false
set_option maxRecDepth 100000
set_option maxHeartbeats 2000000
namespace FL
open PySem PySem.Spec L2
open PyProof.Rows hiding St
section
variable {c : Sc} {k : Nat} {X : Cx} {Wx : WG} {fl : Flr}
theorem pmg_bad {X : Cx} {fl : Flr} {io : List Nat} {tg : Expr} : PMG X fl io tg (fun _ => badM) := ⟨fun pins s σ H v u Q I r h => let ⟨_, _, _, _, _, z⟩ := h; False.elim z⟩
theorem nameT_ok (O : OkC c k X) {x : Str} {p : Pos} : PMG X fl c.io (.Name x p) (nameT c x) := by
  unfold nameT
  split
  · rename_i i hi
    split
    · rename_i hl
      obtain ⟨h1, h2⟩ := locB_ok O hl
      exact pmg_name (by rw [O.N]; exact O.nd) (by rw [O.N]; exact slotIx_ok hi) h1 h2
    · exact pmg_bad
  · exact pmg_bad
theorem tgt1_ok (O : OkC c k X) (e : Expr) : PMG X fl c.io e (tgt1 c e) := by
  unfold tgt1
  split
  · exact nameT_ok O
  · exact pmg_bad
theorem asg_cons {e : Expr} {es : List Expr} {env : Env} (h : isStar e = false) : assignEach (e :: es) env = (false, assign e env) :: assignEach es env := by
  cases e <;> first
    | rfl
    | cases h
theorem asg_len {env : Env} : ∀ {es : List Expr}, noStars es = true → (assignEach es env).length = es.length ∧ (assignEach es env).findIdx? (·.1) = none
  | [], _ => ⟨rfl, rfl⟩
  | e :: es, h => by
    have h' : (!isStar e && noStars es) = true := h
    rw [Bool.and_eq_true] at h'
    obtain ⟨h1, h2⟩ := asg_len (env := env) h'.2
    rw [asg_cons (by simpa using h'.1)]
    refine ⟨by rw [List.length_cons, List.length_cons, h1], ?_⟩
    rw [List.findIdx?_cons]
    simp [h2]
theorem tgts_ok {f : Expr → D → M Unit} (h : ∀ e, PMG X fl c.io e (f e)) : ∀ {es : List Expr}, noStars es = true → PMGs X fl c.io es (tgts f es)
  | [], _ => pmgs_nil
  | e :: es, hs => by
    have h' : (!isStar e && noStars es) = true := hs
    rw [Bool.and_eq_true] at h'
    exact pmgs_cons (h e) (tgts_ok h h'.2) (by rw [asg_cons (by simpa using h'.1)]; rfl)
theorem tupT_ok (O : OkC c k X) {f : Expr → D → M Unit} (h : ∀ e, PMG X fl c.io e (f e)) {es : List Expr} {kk : Nat} {p : Pos} (hs : noStars es = true) : PMG X fl c.io (.Tuple es kk p) (tupG es.length (tgts f es)) := by
  obtain ⟨h1, h2⟩ := asg_len (env := X.env) hs
  exact pmg_tup O.calm (tgts_ok h hs) h1 h2
theorem tgt2_ok (O : OkC c k X) (e : Expr) : PMG X fl c.io e (tgt2 c e) := by
  unfold tgt2
  split
  · split
    · rename_i h
      exact tupT_ok O (tgt1_ok O) h
    · exact pmg_bad
  · exact tgt1_ok O e
theorem tgt_ok (O : OkC c k X) (e : Expr) : PMG X fl c.io e (tgt c e) := by
  unfold tgt
  split
  · split
    · rename_i h
      exact tupT_ok O (tgt2_ok O) h
    · exact pmg_bad
  · exact tgt1_ok O e
/-- a target raises nothing -/
theorem nameT_nf {x : Str} : ∀ d ρ a fs ρ', nameT c x d ρ ≠ .exc a fs ρ' := fun d ρ a fs ρ' h => by
  unfold nameT at h
  cases hs : slotIx c.N x with
  | none => rw [hs] at h; cases h
  | some i =>
    rw [hs] at h
    cases hl : locB c x with
    | false => rw [hl] at h; cases h
    | true =>
      rw [hl] at h
      have h' : (if c.io.contains i = true then Res.bad else Res.ok () (ρ.set i (some (W.d d)))) = Res.exc a fs ρ' := h
      split at h' <;> cases h'
theorem tgt1_nf (e : Expr) : ∀ d ρ a fs ρ', tgt1 c e d ρ ≠ .exc a fs ρ' := fun d ρ a fs ρ' h => by
  unfold tgt1 at h
  split at h
  · exact nameT_nf d ρ a fs ρ' h
  · cases h
theorem tgts_nf {f : Expr → D → M Unit} (hf : ∀ e d ρ a fs ρ', f e d ρ ≠ .exc a fs ρ') : ∀ (es : List Expr) (ds : List D) (ρ : Rho) (a : Str) (fs : List (Str × D)) (ρ' : Rho), tgts f es ds ρ ≠ .exc a fs ρ'
  | [], ds, ρ, a, fs, ρ', h => by
    unfold tgts nilG at h
    split at h <;> cases h
  | e :: es, ds, ρ, a, fs, ρ', h => by
    unfold tgts consG at h
    cases ds with
    | nil => cases h
    | cons d ds =>
      have h' : ((f e d ρ).bind fun _ ρ => tgts f es ds ρ) = .exc a fs ρ' := h
      cases ef : f e d ρ with
      | ok u ρ1 => rw [ef] at h'; exact tgts_nf hf es ds ρ1 a fs ρ' h'
      | exc b gs ρ1 => exact hf e d ρ b gs ρ1 ef
      | bad => rw [ef] at h'; cases h'
theorem tupG_nf {n : Nat} {g : List D → M Unit} (hg : ∀ ds ρ a fs ρ', g ds ρ ≠ .exc a fs ρ') : ∀ d ρ a fs ρ', tupG n g d ρ ≠ .exc a fs ρ' := fun d ρ a fs ρ' h => by
  unfold tupG at h
  split at h
  · split at h
    · exact hg _ _ _ _ _ h
    · cases h
  · cases h
theorem tgt2_nf (e : Expr) : ∀ d ρ a fs ρ', tgt2 c e d ρ ≠ .exc a fs ρ' := fun d ρ a fs ρ' h => by
  unfold tgt2 at h
  split at h
  · split at h
    · exact tupG_nf (tgts_nf tgt1_nf _) d ρ a fs ρ' h
    · cases h
  · exact tgt1_nf _ d ρ a fs ρ' h
theorem tgt_nf (e : Expr) : ∀ d ρ a fs ρ', tgt c e d ρ ≠ .exc a fs ρ' := fun d ρ a fs ρ' h => by
  unfold tgt at h
  split at h
  · split at h
    · exact tupG_nf (tgts_nf tgt2_nf _) d ρ a fs ρ' h
    · cases h
  · exact tgt1_nf _ d ρ a fs ρ' h
variable {cm : Cm}
theorem iterI_ok (C : CmOk cm) (O : OkC c k X) (tk : Tk c k X Wx) {tg it : Expr} : PMI X Wx tg it (iterI cm c tg it) := by
  have data : PMI X Wx tg it (iterM (cm.E c it)) := pmi_data (C.E c k X Wx O tk it)
  unfold iterI
  split
  · rename_i x p a pos
    split
    · rename_i h
      rw [Bool.and_eq_true, Bool.and_eq_true] at h
      obtain ⟨⟨hx, hg⟩, hs⟩ := h
      have ex := eq_of_beq hx
      subst ex
      split
      · rename_i T hl
        obtain ⟨e1, _⟩ := O.gl _ _ hl
        exact pmi_range1 (glB_ok O hg) e1 (dsL_ok (C.E c k X Wx O tk) [a]) (star_cons (by simpa using hs))
      · exact pmi_bad
    · split
      · rename_i h
        rw [Bool.and_eq_true, Bool.and_eq_true, Bool.and_eq_true] at h
        obtain ⟨⟨⟨hx, hg⟩, hs⟩, ht⟩ := h
        have ex := eq_of_beq hx
        subst ex
        split
        · rename_i T hl
          obtain ⟨e1, _⟩ := O.gl _ _ hl
          cases tg with
          | Tuple es kk tp => exact pmi_enum (glB_ok O hg) e1 (dsL_ok (C.E c k X Wx O tk) [a]) (star_cons (by simpa using hs))
          | _ => cases ht
        · exact pmi_bad
      · exact data
  · rename_i x p a b pos
    split
    · rename_i h
      rw [Bool.and_eq_true, Bool.and_eq_true, Bool.and_eq_true] at h
      obtain ⟨⟨⟨hx, hg⟩, hs⟩, hs2⟩ := h
      have ex := eq_of_beq hx
      subst ex
      split
      · rename_i T hl
        obtain ⟨e1, _⟩ := O.gl _ _ hl
        have sb : starEach [b] X.env = [(false, eval b X.env)] := star_cons (by simpa using hs2)
        exact pmi_range2 (glB_ok O hg) e1 (dsL_ok (C.E c k X Wx O tk) [a, b]) (by rw [star_cons (by simpa using hs), sb]) sb
      · exact pmi_bad
    · split
      · rename_i h
        rw [Bool.and_eq_true, Bool.and_eq_true, Bool.and_eq_true, Bool.and_eq_true] at h
        obtain ⟨⟨⟨⟨hx, hg⟩, hs⟩, hs2⟩, ht⟩ := h
        have ex := eq_of_beq hx
        subst ex
        split
        · rename_i T hl
          obtain ⟨e1, _⟩ := O.gl _ _ hl
          have sb : starEach [b] X.env = [(false, eval b X.env)] := star_cons (by simpa using hs2)
          cases tg with
          | Tuple es kk tp => exact pmi_zip (glB_ok O hg) e1 (dsL_ok (C.E c k X Wx O tk) [a, b]) (star_cons (by simpa using hs)) (by rw [sb]; rfl)
          | _ => cases ht
        · exact pmi_bad
      · exact data
  · exact data
theorem own_ix {N : List Str} : ∀ {ns : List (Str × NameKind)} (p : Str × Nat), p ∈ ownOf N ns → N[p.2]? = some p.1
  | [], p, h => by cases h
  | (x, kd) :: r, p, h => by
    unfold ownOf at h
    split at h
    · split at h
      · rename_i i hi
        rcases List.mem_cons.mp h with e | h
        · rw [e]; exact slotIx_ok hi
        · exact own_ix p h
      · exact own_ix p h
    · exact own_ix p h
theorem blk_ok {N : List Str} {sc scope : Scope} (h : blkB N sc scope = true) : BlkOk N sc scope (ownOf N scope.names) := by
  unfold blkB at h
  rw [Bool.and_eq_true, Bool.and_eq_true, Bool.and_eq_true] at h
  obtain ⟨⟨⟨h1, h2⟩, h3⟩, h4⟩ := h
  rw [List.all_eq_true] at h2 h3 h4
  refine ⟨of_decide_eq_true h1, fun y hy => eq_of_beq (h2 y hy), fun p hp => own_ix p hp, fun y hy e => ?_, fun y hy e => ?_⟩
  · have z := h3 y hy
    rw [e] at z
    rw [Bool.or_eq_true, Bool.or_eq_true] at z
    rcases z with (z | z) | z
    · cases z
    · exact .inl (eq_of_beq z)
    · exact .inr (eq_of_beq z)
  · have z := h4 y hy
    have lc : (y.2 == NameKind.local || y.2 == NameKind.cell) = true := by
      rcases e with e | e <;> rw [e] <;> rfl
    rw [lc, Bool.or_eq_true, Bool.or_eq_true] at z
    rcases z with (z | z) | z
    · cases z
    · obtain ⟨p, hp, e2⟩ := List.any_eq_true.mp z
      exact .inl (List.mem_map.mpr ⟨p, hp, eq_of_beq e2⟩)
    · exact .inr fun hm => by
        have z2 : N.contains y.1 = false := by simpa using z
        have z3 : N.contains y.1 = true := by simpa using hm
        rw [z2] at z3
        cases z3
theorem inner_ok (O : OkC c k X) {scope : Scope} (s : Shared) (H : Hp) (C : Addr) (cl : List (Str × Addr)) (fp : List Addr) : OkC (inner c scope) k (X.blk s H scope (compEnvC scope cl C X.env) fp) :=
  ⟨O.N, O.nd, by show relS scope X.env.scope = relS scope c.sc; rw [O.sc], O.calm, O.hu, O.gd, O.room, O.gl, (fun h => by cases h), O.cls⟩
theorem takes_no {X : Cx} {fl : Flr} : Takes X (NoX fl).w := fun u s' ⟨_, _, _, _, _, _, _, _, _, _, _, _, _, _, _, _, w⟩ => w.elim
theorem Tk.inner (tk : Tk c k X Wx) {scope : Scope} (s : Shared) (H : Hp) (C : Addr) (cl : List (Str × Addr)) (fp : List Addr) : Tk (inner c scope) k (X.blk s H scope (compEnvC scope cl C X.env) fp) (NoX Wx.fl) :=
  ⟨takes_no, tk.act, fun m h => nomatch h⟩
theorem ifsT_ok (C : CmOk cm) {d : Sc} (O : OkC d k X) (tk : Tk d k X (NoX fl)) (ifs : List Expr) : PTs X ifs (tB2 X.K X.mg (NoX fl) (ifsT cm ifs d)) := by
  unfold ifsT
  split
  · refine ⟨fun pins s σ H Q I h => pts_nil.run pins s σ H Q I ?_⟩
    obtain ⟨ρ, G, R, h⟩ := h
    exact h H G R Fr.refl
  · exact pts_one (C.B d k X (NoX fl) O tk _)
  · exact ⟨fun pins s σ H Q I h => let ⟨_, _, _, z⟩ := h; False.elim z⟩
theorem compE_ok (C : CmOk cm) (O : OkC c k X) (tk : Tk c k X Wx) {elt : Expr} {gs : List Comprehension} {scope : Scope} {pos : Pos} : PM X Wx (.ListComp elt gs scope pos) (compE cm c elt gs scope) := by
  unfold compE
  split
  · rename_i tg it ifs
    split
    · rename_i h
      rw [Bool.and_eq_true] at h
      have b := blk_ok h.1
      refine pm_lc (own := ownOf c.N scope.names) O.calm (by rw [O.N]; exact O.nd) (iterI_ok C O tk) (by rw [O.N, O.sc]; exact b) (fun s H Cc cl fp => ?_) (fun s H Cc cl fp => ?_) (fun s H Cc cl fp => ?_) (set_ok (by simpa using h.2))
      · rw [O.N]
        exact tgt_ok (inner_ok O s H Cc cl fp) tg
      · exact ifsT_ok C (inner_ok O s H Cc cl fp) (tk.inner s H Cc cl fp) ifs
      · exact C.E _ k _ (NoX Wx.fl) (inner_ok O s H Cc cl fp) (tk.inner s H Cc cl fp) elt
    · exact pm_bad
  · exact pm_bad
theorem stepE_ok (C : CmOk cm) (O : OkC c k X) (tk : Tk c k X Wx) (e : Expr) : PM X Wx e (stepE cm c e) := by
  unfold stepE
  split
  · exact pm_const pe_int rfl
  · exact pm_const pe_bl rfl
  · exact pm_const pe_non rfl
  · exact pm_const pe_str rfl
  · exact nameE_ok O
  · exact pm_bin (C.A c k X Wx O tk _) (C.A c k X Wx O tk _)
  · exact pm_neg (C.A c k X Wx O tk _)
  · exact pm_not (C.A c k X Wx O tk _)
  · exact orE_ok C O tk _
  · exact andE_ok C O tk _
  · exact cmpE_ok C O tk
  · exact pm_if (C.B c k X Wx O tk _) (C.E c k X Wx O tk _) (C.E c k X Wx O tk _)
  · exact pm_tup (dsL_ok (C.E c k X Wx O tk) _)
  · exact pm_lst (dsL_ok (C.E c k X Wx O tk) _)
  · exact dictE_ok C O tk
  · exact subE_ok C O tk
  · split
    · exact actE_ok O tk
    · exact callE_ok C O tk
  · exact callE_ok C O tk
  · exact lamE_ok O tk
  · split
    · rename_i h
      exact methE_ok C O tk h
    · exact pm_bad
  · exact compE_ok C O tk
  · exact pm_bad
theorem stepA_ok (C : CmOk cm) (O : OkC c k X) (tk : Tk c k X Wx) (e : Expr) : PMA X Wx e (stepA cm c e) := by
  unfold stepA
  split
  · exact nameA_ok O
  · exact pma_of (stepE_ok C O tk e)
theorem stepB_ok (C : CmOk cm) (O : OkC c k X) (tk : Tk c k X Wx) (e : Expr) : PMB X Wx e (stepB cm c e) := by
  unfold stepB
  split
  · exact (orT_ok C O tk _).pt
  · exact (andT_ok C O tk _).pt
  · exact pmb_not (C.B c k X Wx O tk _)
  · exact cmpT_ok C O tk
  · split
    · rename_i h
      exact pmb_truth (stepA_ok C O tk e) (plainT_ok h)
    · exact pmb_bad
end
theorem CmOk.next {cm : Cm} (C : CmOk cm) : CmOk cm.next := ⟨fun c k X Wx O tk e => stepE_ok C O tk e, fun c k X Wx O tk e => stepA_ok C O tk e, fun c k X Wx O tk e => stepB_ok C O tk e⟩
theorem cmN_ok : ∀ n, CmOk (cmN n)
  | 0 => CmOk.zero
  | n + 1 => (cmN_ok n).next
end FL
set_option Elab.async false
set_option linter.all false
set_option maxRecDepth 100000
set_option maxHeartbeats 2000000
namespace FL
open PySem PySem.Spec L2
open PyProof.Rows hiding St
def lineOf (ts : List Expr) : Nat := (ts.head?.map (·.pos.line)).getD 0
def locNames (sc : Scope) (l : Nat) (ts : List Expr) : List Str := ts.filterMap fun
  | .Name id pos => if sc.names.lookup id == some .local && pos.line == l then some id else none
  | _ => none
/-- the stores go in their order -/
def swNone (sc : Scope) (ts : List Expr) (e : Expr) : Bool := match e with
  | .Tuple vs _ _ => !(ts.length == 2 || ts.length == 3) || vs.length != ts.length || (locNames sc (lineOf ts) ts).length != ts.length || vs.all (foldedForSure 8)
  | _ => true
theorem swNone_ok {env : Env} {ts : List Expr} {kk : Nat} {p : Pos} {e : Expr} (h : swNone env.scope ts e = true) : swappedStores [.Tuple ts kk p] e env = pure none := by
  cases e with
  | Tuple vs k2 p2 =>
    have h' : (!(ts.length == 2 || ts.length == 3) || vs.length != ts.length || (locNames env.scope (lineOf ts) ts).length != ts.length || vs.all (foldedForSure 8)) = true := h
    unfold swappedStores
    simp only [pure_bind]
    split
    · rfl
    · rename_i c1
      split
      · rfl
      · split
        · rfl
        · rename_i c3
          split
          · rfl
          · rename_i c4
            exfalso
            have c1' : (!(ts.length == 2 || ts.length == 3) || vs.length != ts.length || env.blockKind != ScopeKind.function) = false := by simpa using c1
            rw [Bool.or_eq_false_iff, Bool.or_eq_false_iff] at c1'
            rw [c1'.1.1, c1'.1.2, Bool.false_or, Bool.false_or] at h'
            rw [Bool.or_eq_true] at h'
            rcases h' with z | z
            · apply c3
              rw [Bool.or_eq_true]
              exact .inl z
            · exact c4 z
  | _ => rfl
theorem swPar_ok {env : Env} {x y : Str} {px py p p2 : Pos} {a b : Expr} {kk k2 : Nat} (hk : env.scope.kind = .function) (hx : env.scope.names.lookup x = some .local) (hy : env.scope.names.lookup y = some .local) (hl : (py.line == px.line) = true) (hxy : x ≠ y)
    (h1 : isStar a = false) (h2 : isStar b = false) (h3 : [a, b].all (foldedForSure 8) = false) (h4 : [a, b].all (constantsAlone 8) = false) : swappedStores [.Tuple [.Name x px, .Name y py] kk p] (.Tuple [a, b] k2 p2) env = pure (some [x, y]) := by
  have bk : env.blockKind = .function := by unfold Env.blockKind; rw [hk]; rfl
  have kx : env.kindOf x = some .local := hx
  have ky : env.kindOf y = some .local := hy
  have ne : (x == y) = false := by simpa using hxy
  have ne2 : (y == x) = false := by simpa using Ne.symm hxy
  unfold swappedStores
  simp only [pure_bind, List.length_cons, List.length_nil, bk, List.head?_cons, Option.map_some, Option.getD_some, Expr.pos, List.filterMap_cons, List.filterMap_nil, kx, ky, hl, h3, h4]
  rw [if_neg (by decide)]
  split
  · rename_i z
    exfalso
    obtain ⟨e, he, hz⟩ := List.any_eq_true.mp z
    have hs : isStar e = false := by
      rcases List.mem_cons.mp he with q | q
      · rw [q]; exact h1
      · rw [List.mem_singleton.mp q]; exact h2
    cases e <;> first
      | (have z2 : false = true := hz; cases z2)
      | (have z2 : true = false := hs; cases z2)
  · simp [ne, ne2, List.eraseDups, List.eraseDupsBy, List.eraseDupsBy.loop]
section
variable (cm : Cm) (c : Sc)
def blk (f : Stmt → M Fl) : List Stmt → M Fl
  | [] => nextM
  | s :: r => seqM (f s) (blk f r)
def retE (e : Expr) : M Fl := match e with
  | .Name x _ => if (okName x && visB c x) = true then match slotIx c.N x with
      | some i => retS c.io i
      | none => badM
    else retM (cm.E c e)
  | e => retM (cm.E c e)
def setE (x : Str) (px : Pos) (e : Expr) : M Fl := match slotIx c.N x with
  | some i => if locB c x = true then match e with
      | .ListComp elt gs scope lp =>
        if (decide (c.sc.kind = .function) && c.sc.names.lookup x == some .local && px.line == lp.line && !(scope.names.any fun (n, k) => n == x && (k == .local || k == .cell))) = true then setM c.io i (compE cm c elt gs scope)
        else if (c.sc.names.lookup x == some .cell) = true then setM c.io i (cm.E c e) else badM
      | e => if isComp e = true then badM else setM c.io i (cm.E c e)
    else badM
  | none => badM
def subS (o ix e : Expr) : M Fl := match o with
  | .Name x _ => if (okName x && visB c x && noSlice ix) = true then match slotIx c.N x with
      | some i => setSubM i (cm.E c e) (cm.A c ix)
      | none => badM
    else badM
  | _ => badM
def parS (ts : List Expr) (kk : Nat) (p : Pos) (e : Expr) : M Fl :=
  if swNone c.sc ts e = true then asgM (tgt c (.Tuple ts kk p)) (cm.E c e) else match ts, e with
  | [.Name x px, .Name y py], .Tuple [a, b] _ _ => match slotIx c.N x, slotIx c.N y with
    | some i, some j => if (decide (c.sc.kind = .function) && c.sc.names.lookup x == some .local && c.sc.names.lookup y == some .local && py.line == px.line && !(x == y) && !isStar a && !isStar b && !([a, b].all (foldedForSure 8)) && !([a, b].all (constantsAlone 8)) && decide (i ≠ j)) = true then
        parM c.io i j (cm.E c a) (cm.E c b)
      else badM
    | _, _ => badM
  | _, _ => badM
def raiseE (x : Str) (es : List Expr) : M Fl := if (okName x && glB c x && noStars es) = true then match c.gl.lookup x with
    | some (.ex cn flds) => raiseM cn flds (dsL (cm.E c) es)
    | _ => badM
  else badM
def itsE (nm : Option Str) (body : List Stmt) (flds : List Str) : Option (Nat × List It) := match nm, body with
  | some n, [.Return (some (.Tuple es _ _)) _] => match slotIx c.N n, rdIts n es with
    | some i, some its => if (c.sc.names.lookup n == some .local && okNm n && its.all fun
        | .inr f => flds.contains f
        | .inl _ => true) = true then some (i, its) else none
    | _, _ => none
  | _, _ => none
def handsE : List ExceptHandler → Option (List Hc)
  | [] => some []
  | .ExceptHandler (some (.Name x _)) nm (st :: sts) _ :: r => if (okName x && glB c x) = true then match c.gl.lookup x, handsE r with
      | some (.ex cn flds), some l => some (⟨cn, itsE c nm (st :: sts) flds⟩ :: l)
      | _, _ => none
    else none
  | _ => none
def subC (y cn : Str) : Option Bool := match c.cls.lookup y with
  | some anc => some (anc.contains cn)
  | none => none
def Sc.lk (c : Sc) (i : Nat) : Sc := { c with io := i :: c.io }
/-- the slot of a dict whose keys are walked -/
def dlSlot (it : Expr) : Option Nat := match it with
  | .Name x _ => if c.dl.contains x = true then slotIx c.N x else none
  | _ => none
def stepS (f : Sc → Stmt → M Fl) (st : Stmt) : M Fl := match st with
  | .Expr (.Constant (.str _) _ _) _ => nextM
  | .Expr e _ => if isComp e = true then badM else dropM (cm.E c e)
  | .Return none _ => retN
  | .Return (some e) _ => retE cm c e
  | .Pass _ => nextM
  | .Break _ => fun ρ => .ok .brk ρ
  | .Continue _ => fun ρ => .ok .cont ρ
  | .If t a b _ => ifS (cm.B c t) (blk (f c) a) (blk (f c) b)
  | .While t a [] _ => whileM (cm.B c t) (blk (f c) a) c.lim
  | .For tg it b [] _ => if isSet it = true then badM else match dlSlot c it with
    | some i => lockS i (forS (iterI cm (Sc.lk c i) tg it) (tgt (Sc.lk c i) tg) (blk (f (Sc.lk c i)) b))
    | none => forS (iterI cm c tg it) (tgt c tg) (blk (f c) b)
  | .Assign [.Name x px] e _ => setE cm c x px e
  | .Assign [.Subscript o ix _] e _ => subS cm c o ix e
  | .Assign [.Tuple ts kk p] e _ => parS cm c ts kk p e
  | .Raise (some (.Call (.Name x _) (e :: es) [] _)) none _ => raiseE cm c x (e :: es)
  | .Try body (h :: hs) [] [] _ => match handsE c (h :: hs) with
    | some hcs => tryM (subC c) (blk (f c) body) hcs
    | none => badM
  | _ => badM
def stmtN : Nat → Sc → Stmt → M Fl
  | 0 => fun _ _ => badM
  | n + 1 => fun c => stepS cm c (stmtN n)
end
section
variable {c : Sc} {k : Nat} {X : Cx} {Wx : WG} {cm : Cm} {f : Stmt → M Fl} {ff : Sc → Stmt → M Fl}
theorem pms_badS {st : Stmt} {io : List Nat} : PMS X Wx io st badM := ⟨fun pins s σ H En I h => let ⟨_, _, _, z⟩ := h; False.elim z⟩
theorem blk_okS (h : ∀ st, PMS X Wx c.io st (f st)) : ∀ sts, PMSs X Wx c.io sts (blk f sts)
  | [] => pms_nil
  | s :: r => pms_cons (h s) (blk_okS h r)
theorem noSwap {e : Expr} {t : Option Expr} {l : Nat} {env : Env} (h : isComp e = false) : swapsWith e t l env = pure false := by
  cases e <;> first
    | rfl
    | cases h
theorem noSwapT {e : Expr} {es : List Expr} {kk : Nat} {p : Pos} {l : Nat} {env : Env} : swapsWithSole [.Tuple es kk p] e l env = pure false := by
  cases e <;> rfl
theorem sw_cell {elt : Expr} {gs : List Comprehension} {scope : Scope} {pos py : Pos} {y : Str} {l : Nat} {env : Env} (hy : env.scope.names.lookup y = some .cell) : swapsWith (.ListComp elt gs scope pos) (some (.Name y py)) l env = pure false := by
  have ky : env.kindOf y = some .cell := hy
  have nb : (NameKind.cell == NameKind.local) = false := rfl
  unfold swapsWith
  simp [ky, nb]
theorem retE_ok (C : CmOk cm) (O : OkC c k X) (tk : Tk c k X Wx) {e : Expr} {pos : Pos} : PMS X Wx c.io (.Return (some e) pos) (retE cm c e) := by
  unfold retE
  split
  · rename_i x p
    split
    · rename_i h
      rw [Bool.and_eq_true] at h
      obtain ⟨h1, h2, h3⟩ := okName_ok h.1
      split
      · rename_i i hi
        exact pms_retS (by rw [O.N]; exact slotIx_ok hi) (visB_ok O h.2) h1 h2
      · exact pms_badS
    · exact pms_ret (C.E c k X Wx O tk _)
  · exact pms_ret (C.E c k X Wx O tk _)
theorem setBad {st : Stmt} {io : List Nat} {i : Nat} : PMS X Wx io st (setM io i badM) := ⟨fun pins s σ H En I h => let ⟨_, _, _, z⟩ := h; False.elim z⟩
theorem setE_ok (C : CmOk cm) (O : OkC c k X) (tk : Tk c k X Wx) {x : Str} {px pos : Pos} {e : Expr} : PMS X Wx c.io (.Assign [.Name x px] e pos) (setE cm c x px e) := by
  unfold setE
  split
  · rename_i i hi
    have hi' : X.N[i]? = some x := by rw [O.N]; exact slotIx_ok hi
    have nd : X.N.Nodup := by rw [O.N]; exact O.nd
    split
    · rename_i hl
      obtain ⟨l1, l2⟩ := locB_ok O hl
      split
      · rename_i elt gs scope lp
        split
        · rename_i h
          rw [Bool.and_eq_true, Bool.and_eq_true, Bool.and_eq_true] at h
          obtain ⟨⟨⟨hk, hx⟩, hln⟩, ha⟩ := h
          have hx' : X.env.scope.names.lookup x = some .local := by rw [O.sc]; exact eq_of_beq hx
          unfold compE
          split
          · rename_i tg it ifs
            split
            · rename_i h
              rw [Bool.and_eq_true] at h
              have b := blk_ok h.1
              refine pms_setLc (own := ownOf c.N scope.names) O.calm nd hi' hx' (sw_true (by rw [O.sc]; exact of_decide_eq_true hk) hx' hln (by simpa using ha)) (iterI_ok C O tk) (by rw [O.N, O.sc]; exact b) (fun s H Cc cl fp => ?_) (fun s H Cc cl fp => ?_) (fun s H Cc cl fp => ?_) (set_ok (by simpa using h.2))
              · rw [O.N]
                exact tgt_ok (inner_ok O s H Cc cl fp) tg
              · exact ifsT_ok C (inner_ok O s H Cc cl fp) (tk.inner s H Cc cl fp) ifs
              · exact C.E _ k _ (NoX Wx.fl) (inner_ok O s H Cc cl fp) (tk.inner s H Cc cl fp) elt
            · exact setBad
          · exact setBad
        · split
          · rename_i h
            exact pms_set nd hi' l1 (C.E c k X Wx O tk _) (sw_cell (by rw [O.sc]; exact eq_of_beq h)) l2
          · exact pms_badS
      · split
        · exact pms_badS
        · rename_i h
          exact pms_set nd hi' l1 (C.E c k X Wx O tk _) (noSwap (by simpa using h)) l2
    · exact pms_badS
  · exact pms_badS
theorem subS_ok (C : CmOk cm) (O : OkC c k X) (tk : Tk c k X Wx) {o ix e : Expr} {p pos : Pos} : PMS X Wx c.io (.Assign [.Subscript o ix p] e pos) (subS cm c o ix e) := by
  have hu : X.A.units + 1 < cLine := by have := O.hu; omega
  unfold subS
  split
  · rename_i x q
    split
    · rename_i h
      rw [Bool.and_eq_true, Bool.and_eq_true] at h
      obtain ⟨⟨hn, hv⟩, hs⟩ := h
      obtain ⟨h1, h2, h3⟩ := okName_ok hn
      split
      · rename_i i hi
        exact pms_setSub hu (by rw [O.N]; exact slotIx_ok hi) (visB_ok O hv) h1 h2 (C.E c k X Wx O tk _) (C.A c k X Wx O tk _) hs
      · exact pms_badS
    · exact pms_badS
  · exact pms_badS
theorem parS_ok (C : CmOk cm) (O : OkC c k X) (tk : Tk c k X Wx) {ts : List Expr} {kk : Nat} {e : Expr} {p pos : Pos} : PMS X Wx c.io (.Assign [.Tuple ts kk p] e pos) (parS cm c ts kk p e) := by
  unfold parS
  split
  · rename_i h
    exact pms_asg (C.E c k X Wx O tk e) (tgt_ok O _) noSwapT (swNone_ok (by rw [O.sc]; exact h)) rfl (tgt_nf _)
  · split
    · rename_i x px y py a b k2 p2 _
      split
      · rename_i i j hi hj
        split
        · rename_i h
          simp only [Bool.and_eq_true] at h
          obtain ⟨⟨⟨⟨⟨⟨⟨⟨⟨hk, hx⟩, hy⟩, hl⟩, hxy⟩, sa⟩, sb⟩, f1⟩, f2⟩, hij⟩ := h
          have hx' : X.env.scope.names.lookup x = some .local := by rw [O.sc]; exact eq_of_beq hx
          have hy' : X.env.scope.names.lookup y = some .local := by rw [O.sc]; exact eq_of_beq hy
          have sa' : isStar a = false := by simpa using sa
          have sb' : isStar b = false := by simpa using sb
          exact pms_par O.calm (by rw [O.N]; exact O.nd) (by rw [O.N]; exact slotIx_ok hi) (by rw [O.N]; exact slotIx_ok hj) (of_decide_eq_true hij) hx' hy' (C.E c k X Wx O tk a) (C.E c k X Wx O tk b) (star_cons sa') (star_cons sb')
            (swPar_ok (by rw [O.sc]; exact of_decide_eq_true hk) hx' hy' hl (by simpa using hxy) sa' sb' (by rw [← Bool.not_eq_true']; exact f1) (by rw [← Bool.not_eq_true']; exact f2))
        · exact pms_badS
      · exact pms_badS
    · exact pms_badS
theorem raiseE_ok (C : CmOk cm) (O : OkC c k X) (tk : Tk c k X Wx) {x : Str} {e : Expr} {es : List Expr} {p pos pos' : Pos} : PMS X Wx c.io (.Raise (some (.Call (.Name x p) (e :: es) [] pos)) none pos') (raiseE cm c x (e :: es)) := by
  unfold raiseE
  split
  · rename_i h
    rw [Bool.and_eq_true, Bool.and_eq_true] at h
    obtain ⟨⟨hn, hg⟩, hs⟩ := h
    obtain ⟨h1, _, _⟩ := okName_ok hn
    have hs' : (!isStar e && noStars es) = true := hs
    rw [Bool.and_eq_true] at hs'
    split
    · rename_i cn flds hl
      obtain ⟨D, fI, fd, j, hj, e1, e2, e3, e4, e5, e6, e7, e8, _⟩ := O.gl _ _ hl
      exact pms_raise O.calm tk.tk e3 e4 e5 e6 (O.room.mono hj) e7 e8 (glB_ok O hg) e1 e2 (dsL_ok (C.E c k X Wx O tk) (e :: es)) h1 (star_cons (by simpa using hs'.1)) (plain_any hs'.2)
    · exact pms_badS
  · exact pms_badS
theorem handsE_ok (O : OkC c k X) : ∀ {hs : List ExceptHandler} {hcs : List Hc}, handsE c hs = some hcs → Hands X (subC c) hs hcs
  | [], hcs, h => by
    cases (show some [] = some hcs from h)
    exact .nil
  | hd :: hs, hcs, h => by
    unfold handsE at h
    split at h
    · rename_i z
      cases z
    · rename_i x px nm st sts p2 r z
      cases z
      split at h
      · rename_i hb
        rw [Bool.and_eq_true] at hb
        obtain ⟨h1, _, _⟩ := okName_ok hb.1
        split at h
        · rename_i cn flds l hl hr
          cases h
          obtain ⟨D, fI, fd, j, hj, e1, e2, e3, e4, e5, e6, e7, e8, e9, e10⟩ := O.gl _ _ hl
          refine .cons (glB_ok O hb.2) h1 e1 e2 (fun y b C0 hs0 hm => ?_) (fun i ts hi => ?_) (handsE_ok O hr)
          · unfold subC at hs0
            split at hs0
            · rename_i anc ha
              cases hs0
              exact O.cls y anc ha x cn flds hl C0 D hm e2
            · cases hs0
          · unfold itsE at hi
            split at hi
            · rename_i n es kk p3 p4 eb
              split at hi
              · rename_i i' its hsl hrd
                split at hi
                · rename_i hc
                  cases hi
                  rw [Bool.and_eq_true, Bool.and_eq_true] at hc
                  refine ⟨n, es, kk, p3, p4, rfl, eb, by rw [O.N]; exact slotIx_ok hsl, (show X.env.scope.names.lookup n = some .local by rw [O.sc]; exact eq_of_beq hc.1.1), hc.1.2, hrd, e9, fun f hf => e10 f ?_⟩
                  have z := List.all_eq_true.mp hc.2 _ hf
                  simpa using z
                · cases hi
              · cases hi
            · cases hi
        · cases h
      · cases h
    · cases h
/-- a def's own frame -/
def StkOk (X : Cx) : Prop := X.stack = X.env :: X.outer ∧ X.env.frame = some X.env.locals
theorem stepS_ok (C : CmOk cm) (O : OkC c k X) (tk : Tk c k X Wx) (po : PassesOwn (model X.prog X.w) X.A X.env X.xe) (sk : StkOk X) (hh : ∀ (c' : Sc) (X' : Cx) (Wx' : WG), OkC c' k X' → Tk c' k X' Wx' → PassesOwn (model X'.prog X'.w) X'.A X'.env X'.xe → StkOk X' → ∀ st, PMS X' Wx' c'.io st (ff c' st)) (st : Stmt) : PMS X Wx c.io st (stepS cm c ff st) := by
  have h := hh c X Wx O tk po sk
  unfold stepS
  split
  · exact psImp ps_doc fun D σ H h => let ⟨ρ, G, R, h⟩ := h; h σ H G R Fr.refl
  · split
    · exact pms_badS
    · rename_i hc
      exact pms_expr (C.E c k X Wx O tk _) (noSwap (by simpa using hc))
  · exact pms_retN
  · exact retE_ok C O tk
  · exact pms_pass
  · exact pms_break
  · exact pms_continue
  · exact pms_if (C.B c k X Wx O tk _) (blk_okS h _) (blk_okS h _)
  · exact pms_while po (C.B c k X Wx O tk _) (blk_okS h _)
  · split
    · exact pms_badS
    · rename_i hc
      split
      · rename_i i hi
        have O' : OkC (Sc.lk c i) k X := ⟨O.N, O.nd, O.sc, O.calm, O.hu, O.gd, O.room, O.gl, O.fn, O.cls⟩
        have tk' : Tk (Sc.lk c i) k X Wx := ⟨tk.tk, tk.act, tk.lm⟩
        exact pms_lock (pms_for po O.calm (iterI_ok C O' tk') (tgt_ok O' _) (blk_okS (hh _ X Wx O' tk' po sk) _) (set_ok (by simpa using hc)) (tgt_nf _))
      · exact pms_for po O.calm (iterI_ok C O tk) (tgt_ok O _) (blk_okS h _) (set_ok (by simpa using hc)) (tgt_nf _)
  · exact setE_ok C O tk
  · exact subS_ok C O tk
  · exact parS_ok C O tk
  · exact raiseE_ok C O tk
  · split
    · rename_i hcs hx
      refine pms_try sk.1 sk.2 (by rw [O.N]; exact O.nd) tk.tk (fun W pn xe t po' => ?_) (handsE_ok O hx)
      exact blk_okS (hh c (X.tr pn xe) ⟨W, Wx.fl⟩ ⟨O.N, O.nd, O.sc, O.calm, O.hu, O.gd, O.room, O.gl, O.fn, O.cls⟩ ⟨t, tk.act, fun m hm => let ⟨mo, hk⟩ := tk.lm m hm; ⟨⟨mo.cells, mo.qual, mo.code, mo.fn, mo.gl⟩, hk⟩⟩ po' sk) _
    · exact pms_badS
  · exact pms_badS
theorem stmtN_ok (C : CmOk cm) : ∀ (n : Nat) {c : Sc} {X : Cx} {Wx : WG}, OkC c k X → Tk c k X Wx → PassesOwn (model X.prog X.w) X.A X.env X.xe → StkOk X → ∀ st, PMS X Wx c.io st (stmtN cm n c st)
  | 0, _, _, _, _, _, _, _, _ => pms_badS
  | n + 1, _, _, _, O, tk, po, sk, st => stepS_ok C O tk po sk (fun c' X' Wx' O' tk' po' sk' => stmtN_ok C n O' tk' po' sk') st
end
end FL
set_option Elab.async false
set_option linter.all false
set_option maxRecDepth 100000
set_option maxHeartbeats 2000000
namespace FL
open PySem PySem.Spec L2
open PyProof.Rows hiding St
/-- how deep expressions, statements are read -/
abbrev rdE : Nat := 24
abbrev rdS : Nat := 12
def rd (c : Sc) (b : List Stmt) : M Fl := blk (stmtN (cmN rdE) rdS c) b
section
variable {P : Program} {w : World} {K : PySem.W.Frag} {mg : Str → Option Value} {base : Heap}
/-- a def of the text, read: act, what it may lean on -/
theorem fn_core {name qual : Str} {params : Arguments} {body : List Stmt} {scope : Scope} {f : Addr} {dV kV doc pm cdv ct oc : Value} {an od : Option Addr} {osl : Array (Option Value)} {T : List (Addr × Str) → Prop} {N ps : List Str} {sig : List Bool} {k : Nat} {c : Addr → (D → FR) → Sc} {m : Addr → (D → FR) → M Fl}
    (lk : K.lookup f = some ⟨oc, od, .func (PySem.W.fnOf name qual params body scope dV kV doc pm an cdv ct), osl⟩) (hcd : PySem.W.codeIn K cdv qual = true) (S : FnScope N ps scope) (hsig : sig.length = ps.length)
    (hN : ∀ a Λ, (c a Λ).N = N) (hsc : ∀ a Λ, (c a Λ).sc = scope) (hio : ∀ a Λ, (c a Λ).io = ioOf 0 sig) (hm : ∀ a Λ, rd (c a Λ) body = m a Λ) (hgl : ∀ a Λ x e, (c a Λ).gl.lookup x = some e → GOk P w K mg base k x e)
    (hcls : ∀ a Λ, ClsOk K mg (c a Λ)) (hact : ∀ a Λ, ((c a Λ).act = fun _ => .bad) ∨ ((c a Λ).act = Λ ∧ KL ≤ k))
    (hlm : ∀ (a : Addr) (Λ : D → FR) (fl : Flr), T fl.T → ∀ mi, (c a Λ).lm = some mi → KL ≤ k ∧ mi.cl = cellsFrom (a + 1) scope.names [] ∧ mi.q = qual ++ ".<locals>." ++ "<lambda>" ∧ (∃ cd P, cdv = .ref cd ∧ LamX.TabB base mg cd P ∧ (P, mi.q) ∈ fl.T ∧ ∀ p ∈ fl.T, p.1 = P → p.2 = mi.q) ∧
      ∀ x e, mi.gl.lookup x = some e → GOk P w K mg base (KL - 1) x e) :
    FnX P w K mg base T (k + 1) f (PySem.W.fnOf name qual params body scope dV kV doc pm an cdv ct) ps (fun a Λ => fnM N.length sig (m a Λ)) := by
  refine fnX_of lk hcd S hsig fun A outer s H E fl Λ hT lv bsz hr hg => ?_
  rw [← hm, ← hio s.heap.objs.size Λ]
  have O : OkC (c s.heap.objs.size Λ) k (cxOf (L2.CX P w) P w K mg base N qual scope f cdv A outer s H E) :=
    ⟨(hN _ _).symm, by rw [hN]; exact S.nd, (hsc _ _).symm, rfl, by have := hr.un; show (A.deeper _).units + 200 < cLine; omega, hg, hr, hgl _ _, fun _ _ => rfl, hcls _ _⟩
  have tk : Tk (c s.heap.objs.size Λ) k (cxOf (L2.CX P w) P w K mg base N qual scope f cdv A outer s H E) ⟨fun cls d _ H' => E cls d H', fl⟩ := by
    refine ⟨takes_of rfl rfl rfl rfl, ?_, fun mi hmi => ?_⟩
    · rcases hact s.heap.objs.size Λ with e | ⟨e, hk⟩
      · exact ⟨by rw [e]; exact lamVs_bad, .inl e⟩
      · exact ⟨by rw [e]; exact lv, .inr hk⟩
    · obtain ⟨hk, e1, e2, e3, e4⟩ := hlm _ _ fl hT mi hmi
      exact ⟨⟨e1.symm, e2.symm, e3, fun _ => rfl, e4⟩, hk⟩
  exact blk_okS (fun st => stmtN_ok (cmN_ok rdE) rdS O tk (passes_of rfl) ⟨rfl, rfl⟩ st) _
theorem fn_ok {x qual : Str} {st : Stmt} {f : Addr} {fd : FuncData} {c : Sc} {ps : List Str} {sig : List Bool} {k : Nat} {m : M Fl} (F : Fun K x qual st f fd) (S : FnScope c.N ps (defScope st)) (hsig : sig.length = ps.length) (hsc : c.sc = defScope st) (hio : c.io = ioOf 0 sig)
    (hm : rd c (defBody st) = m) (hgl : ∀ x e, c.gl.lookup x = some e → GOk P w K mg base k x e) (ha : c.act = fun _ => .bad) (hl : c.lm = none) (hcls : ClsOk K mg c) : FnG P w K mg base (k + 1) f fd ps (fnM c.N.length sig m) := by
  obtain ⟨oc, od, kV, doc, pm, an, cdv, ct, osl, rfl, lk, hcd⟩ := F.ex
  exact fn_core (c := fun _ _ => c) (m := fun _ _ => m) lk hcd S hsig (fun _ _ => rfl) (fun _ _ => hsc) (fun _ _ => hio) (fun _ _ => hm) (fun _ _ => hgl) (fun _ _ => hcls) (fun _ _ => .inl ha) fun _ _ _ _ mi e => by rw [hl] at e; cases e
theorem cls_nil {c : Sc} (h : c.cls = []) : ClsOk K mg c := fun y anc z => by rw [h] at z; cases z
/-- the errors of a table -/
def ExAll (Q : Str → Prop) : List (Str × GE) → Prop
  | [] => True
  | (_, .ex cn _) :: r => Q cn ∧ ExAll Q r
  | _ :: r => ExAll Q r
theorem ExAll.get {Q : Str → Prop} : ∀ {gl : List (Str × GE)}, ExAll Q gl → ∀ {x cn flds}, gl.lookup x = some (.ex cn flds) → Q cn
  | [], _, _, _, _, h => by cases h
  | (y, g) :: r, q, x, cn, flds, h => by
    rw [List.lookup_cons] at h
    cases hb : x == y with
    | true =>
      rw [hb] at h
      cases h
      exact q.1
    | false =>
      rw [hb] at h
      have q' : ExAll Q r := by
        cases g <;> first
          | exact q
          | exact q.2
      exact ExAll.get q' h
theorem cls_of {c : Sc} (h : ∀ p ∈ c.cls, ExAll (fun cn => ∀ C0 C, mg p.1 = some (.ref C0) → mg cn = some (.ref C) → PySem.W.exmOne K (.ref C0) (.ref C) = some (p.2.contains cn)) c.gl) : ClsOk K mg c := fun y anc z x cn flds hx =>
  (h (y, anc) (PySem.mem_of_lookup z)).get hx
theorem cls_one {y cn : Str} {C D : Addr} {b : Bool} (e1 : mg y = some (.ref C)) (e2 : mg cn = some (.ref D)) (e : PySem.W.exmOne K (.ref C) (.ref D) = some b) : ∀ C0 C', mg y = some (.ref C0) → mg cn = some (.ref C') → PySem.W.exmOne K (.ref C0) (.ref C') = some b := fun C0 C' h1 h2 => by
  rw [e1] at h1
  rw [e2] at h2
  cases h1
  cases h2
  exact e
/-- a def that calls what lambdas it gets -/
theorem fnL_ok {x qual : Str} {st : Stmt} {f : Addr} {fd : FuncData} {c : (D → FR) → Sc} {N ps : List Str} {sig : List Bool} {k : Nat} {m : (D → FR) → M Fl} (F : Fun K x qual st f fd) (S : FnScope N ps (defScope st)) (hsig : sig.length = ps.length) (hN : ∀ Λ, (c Λ).N = N) (hsc : ∀ Λ, (c Λ).sc = defScope st) (hio : ∀ Λ, (c Λ).io = ioOf 0 sig)
    (hm : ∀ Λ, rd (c Λ) (defBody st) = m Λ) (hgl : ∀ Λ x e, (c Λ).gl.lookup x = some e → GOk P w K mg base k x e) (ha : ∀ Λ, (c Λ).act = Λ) (hk : KL ≤ k) (hl : ∀ Λ, (c Λ).lm = none) (hcls : ∀ Λ, ClsOk K mg (c Λ)) : FnL P w K mg base (k + 1) f fd ps (fun Λ => fnM N.length sig (m Λ)) := by
  obtain ⟨oc, od, kV, doc, pm, an, cdv, ct, osl, rfl, lk, hcd⟩ := F.ex
  exact fn_core (c := fun _ Λ => c Λ) (m := fun _ Λ => m Λ) lk hcd S hsig (fun _ Λ => hN Λ) (fun _ Λ => hsc Λ) (fun _ Λ => hio Λ) (fun _ Λ => hm Λ) (fun _ Λ => hgl Λ) (fun _ Λ => hcls Λ) (fun _ Λ => .inr ⟨ha Λ, hk⟩) fun _ Λ _ _ mi e => by rw [hl] at e; cases e
theorem fnG_bad {k : Nat} {f : Addr} {fd : FuncData} {ps : List Str} : FnG P w K mg base k f fd ps (fun _ => .bad) :=
  ⟨fun _ _ _ h => absurd rfl h, fun _ _ _ _ _ _ _ _ _ _ _ _ _ _ _ _ _ _ h => let ⟨_, _, _, z⟩ := h; False.elim z⟩
/-- a global def at its place in a table -/
theorem gok_fn {x : Str} {f : Addr} {fd : FuncData} {ps : List Str} {F : FnSem} {sig : List Bool} {j k : Nat} {st : Stmt} {qual nm : Str} (U : Fun K nm qual st f fd) (b : Binds K fd ps []) (G : FnG P w K mg base j f fd ps F) (h : j ≤ k) (e : mg x = some (.ref f)) : GOk P w K mg base k x (.fn F sig) :=
  ⟨f, fd, ps, e, U.kp, FnX.mono G h, b⟩
/-- a table's rows, one after another -/
theorem gl_nil {k : Nat} : ∀ x e, ([] : List (Str × GE)).lookup x = some e → GOk P w K mg base k x e := fun x e h => by cases h
theorem gl_cons {k : Nat} {y : Str} {g : GE} {r : List (Str × GE)} (h1 : GOk P w K mg base k y g) (h2 : ∀ x e, r.lookup x = some e → GOk P w K mg base k x e) : ∀ x e, ((y, g) :: r).lookup x = some e → GOk P w K mg base k x e := fun x e h => by
  rw [List.lookup_cons] at h
  cases hb : x == y with
  | true =>
    rw [hb] at h
    cases h
    rw [eq_of_beq hb]
    exact h1
  | false =>
    rw [hb] at h
    exact h2 x e h
end
theorem law_end {P : Program} {w : World} {K : PySem.W.Frag} {mg mb : Str → Option Value} {k : Nat} {fa a : Addr} {fd : FuncData} {x : Str} {F : FnSem} {s : Shared} {us : List Value} {ns : List Int} {n : Nat}
    (inK : K.In s.heap) (hmg : s.heap.Ns mainGlobals mg) (hmb : s.heap.Ns builtinsNs mb) (hboot : ∀ y : Str, y ≠ "__name__" → mb y = bootBuiltins y) (lim : s.heap.NoLimit) (noG : s.gens = #[])
    (at_ : s.heap.get? a = some { cls := .type "list", data := .seq us.toArray }) (isI : IntsAre us ns) (len : ns.length ≤ n) (hn : n ≤ sizeLine) (room : Room k callerA)
    (FG : ∀ base : Heap, K.In base → base.Ns mainGlobals mg → FnG P w K mg base k fa fd [x] F) (bind : ∀ (s : Shared) (u : Value), BindsTo s fd ⟨[u], []⟩ [(x, u)])
    (truth : ∃ o, F [.d (.scr ns)] = .ok (.d (.bl true)) o) :
    codeAny (model P w) callerA (.call (.ref fa) ⟨[.ref a], []⟩) (fun r s' => r = .ok (.ret (.bool true)) ∧ OldK s.heap s'.heap ∧ s'.os = s.os ∧ AllBare s'.gens) s := by
  have vals := vals_ints isI
  have small : ns.length ≤ sizeLine := Nat.le_trans len hn
  -- all that is tracked: the script, unless it is one of the module's objects
  have go : ∀ H : Hp, (∀ b, H b = none ∨ (b = a ∧ H b = some (.frz { cls := .type "list", data := .seq us.toArray } (.lst (ns.map V.int))))) → (H a ≠ none → K.lookup a = none) → SqL K H a (ns.map V.int) →
      codeAny (model P w) callerA (.call (.ref fa) ⟨[.ref a], []⟩) (fun r s' => r = .ok (.ret (.bool true)) ∧ OldK s.heap s'.heap ∧ s'.os = s.os ∧ AllBare s'.gens) s := fun H only noK isL => by
    have hok : HOk P w H s.heap := fun b u hb => by
      rcases only b with z | ⟨z1, z2⟩
      · rw [z] at hb; cases hb
      · rw [z2] at hb
        cases hb
        subst z1
        exact ⟨at_, by rw [List.length_map]; exact small, us, _, vals, at_⟩
    have free : ∀ {b : Addr} {o : Obj}, s.heap.get? b = some o → o ≠ { cls := .type "list", data := .seq us.toArray } → H b = none := fun {b o} e ne => by
      rcases only b with z | ⟨z1, _⟩
      · exact z
      · subst z1
        rw [at_] at e
        exact absurd (Option.some.inj e).symm ne
    have kept : ∀ {b : Addr} {m : Str → Option Value}, s.heap.Ns b m → (hidT s.heap H).Ns b m := fun {b m} ⟨o, es, ep, e, d, r⟩ => ⟨o, es, ep, hidT_get e (free e fun z => by rw [z] at d; cases d), d, r⟩
    have inB : K.In (hidT s.heap H) := fun b o e => hidT_get (inK b o e) (by
      rcases only b with z | ⟨z1, z2⟩
      · exact z
      · subst z1
        rw [noK (by rw [z2]; simp)] at e
        cases e)
    have md : Mod K mg (hidT s.heap H) := ⟨inB, kept hmg, ⟨mb, kept hmb, hboot⟩, let ⟨mc, l1, l2⟩ := lim; ⟨mc, kept l1, l2⟩⟩
    have none_in : ∀ {b : Addr}, b ∉ frs ([] : List Env) := fun {b} z => absurd (show b ∈ ([] : List Addr) from z) (by simp)
    have env : Env0 P w K mg (hidT s.heap H) callerA [] s H := ⟨rfl, md, fun b o e => of_hidT e, Nat.le_of_eq (hidT_size _ _), trivial, fun b hb => absurd hb none_in, hok, .of_eq noG⟩
    obtain ⟨outs, eF⟩ := truth
    have ent : EntA K mg ⟨fun _ => none, []⟩ [.ref a] [.d (.scr ns)] H H := by
      refine ⟨rfl, SubH.refl, fun i w hw => ?_, fun i j y z v h1 => ?_, SubH.nothing, fun p hp => absurd hp (by simp), fun b o hb => ?_⟩
      · cases i with
        | zero =>
          have e1 : W.d (.scr ns) = w := by simpa using hw
          subst e1
          exact ⟨.ref a, rfl, a, rfl, isL⟩
        | succ i => simp at hw
      · cases i with
        | zero => simp at h1
        | succ i => simp at h1
      · rcases only b with z | ⟨_, z⟩
        · rw [z] at hb; cases hb
        · rw [z] at hb; cases hb; exact fun _ z => nomatch z
    have sp : spF K mg ⟨fun _ => none, []⟩ F [.ref a] H (fun v _ => v = .bl true) fun _ _ _ => False := ⟨_, H, ent, by
      rw [eF]
      exact fun v H' G' _ rv _ => rv⟩
    refine codeAny_mono ((FG _ inB (kept hmg)).run callerA [] s H ⟨[.ref a], []⟩ [.ref a] [.ref a] _ _ _ (fun _ => .bad) True.intro room rfl lamVs_bad env (bind s (.ref a)) (.cons rfl .nil) sp) fun r s' q => ?_
    match r, q with
    | .error e, q => exact let ⟨_, _, _, _, _, _, _, _, _, _, _, _, z⟩ := q; False.elim z
    | .ok .next, q => exact False.elim q
    | .ok .brk, q => exact False.elim q
    | .ok .cont, q => exact False.elim q
    | .ok (.ret u), q =>
      obtain ⟨v, H', os, bare, un, hok', rv, ev⟩ := q
      have ev' : v = .bl true := ev
      subst ev'
      obtain rfl : u = Value.bool true := rv
      refine ⟨rfl, OldK.of_keep fun b o e => ?_, os, bare⟩
      rcases only b with z | ⟨z1, z2⟩
      · exact un.keep b o e z none_in (by simp)
      · subst z1
        obtain ⟨e2, _⟩ := hok' b _ (un.frzs b _ _ z2)
        rw [at_] at e
        cases e
        exact e2
  cases hk : K.lookup a with
  | some o =>
    have e := inK a o hk
    rw [at_] at e
    cases e
    exact go (fun _ => none) (fun _ => .inl rfl) (fun z => absurd rfl z) (.inr ⟨_, us.toArray, _, hk, rfl, rfl, rfl, by rw [List.size_toArray, isI.length]; exact small, by simpa using vals⟩)
  | none =>
    refine go (fun b => if b = a then some (.frz { cls := .type "list", data := .seq us.toArray } (.lst (ns.map V.int))) else none) (fun b => ?_) (fun _ => hk) (.inl (.inr ⟨_, if_pos rfl⟩))
    by_cases hb : b = a
    · exact .inr ⟨hb, if_pos hb⟩
    · exact .inl (if_neg hb)
/-- what k_head leaves, from the law's def -/
theorem walk_end {l : PySem.W.OpenLaw} {n k : Nat} {q : Program} {loose : List Str} {XP : (Str → Option Value) → Heap → Prop} {YP : World → Heap → Prop} {d : DefRec} {K : Params → PySem.W.Frag} {x : Str} {F : FnSem}
    (hn : l.most = some n) (hn2 : n ≤ sizeLine) (hdf : d.params.defaults = []) (hr : Room k callerA) (hY : ∀ (w : World) (h : Heap), YP w h → (K w.params).In h)
    (FF : ∀ (w : World) (mg : Str → Option Value) (fa : Addr) (h : Heap), (K w.params).In h → h.Ns mainGlobals mg → mg d.name = some (.ref fa) →
      ∃ fd : FuncData, (∀ (s : Shared) (u : Value), BindsTo s fd ⟨[u], []⟩ [(x, u)]) ∧ ∀ base : Heap, (K w.params).In base → base.Ns mainGlobals mg → FnG l.prog w (K w.params) mg base k fa fd [x] F)
    (truth : ∀ ns : List Int, ns.length ≤ n → (∀ z ∈ ns, Builtin.Int.intBits z ≤ 1048576) → ∃ o, F [.d (.scr ns)] = .ok (.d (.bl true)) o) :
    PySem.W.WalkO q loose XP YP l.row.toRowW d [] (fun f vs => PySem.call f vs) := by
  refine Att.attach_callB hn hdf fun w s₀ s₁ mg mb fa o pm cd doc a vs ns G Y ho hd hcd hmg hobj hints hlen hbits hg => ?_
  obtain ⟨fd, hb, hF⟩ := FF w mg fa _ (hY w _ Y) G.T.g hmg
  exact law_end (hY w _ Y) G.T.g G.T.b G.T.builtins G.T.nolimit hg hobj hints hlen hn2 hr hF hb (truth ns hlen hbits)
end FL
set_option Elab.async false
set_option linter.all false
set_option maxRecDepth 100000
set_option maxHeartbeats 4000000
set_option exponentiation.threshold 2000
namespace FL
open PySem PySem.Spec L2
open PyProof.Rows hiding St
def penM : M Fl := (seqM (setM [] 1 (constM (.int (0)))) (seqM (forS (iterM (slotM 0)) (nameG [] 2) (seqM (setM [] 1 (binM .Mod (datA (bcM intW (consA (datA (binM .Add (datA (binM .Mult (slotA 1) (datA (constM (.int (199)))))) (slotA 2))) nilA))) (datA (constM (.int (999998689)))))) nextM)) (seqM (retM (dictM [(.inr "cells", (bcM listW (consA (slotA 0) nilA))), (.inr "at", (constM (.int (0)))), (.inr "digits", (constM (.int (0)))), (.inr "count", (constM (.int (0)))), (.inr "fold", (slotM 1))])) nextM)))
def kBig : Int := 2305843009213693951
def k61 : Int := 61
def pw61 (a : Int) : Int := a ^ 61
def dS1 : M Fl := (setSubM 0 (binM .Add (datA (ixM (slotA 0) (datA (constM (.str "count"))))) (datA (constM (.int (1))))) (datA (constM (.str "count"))))
def dS2 : M Fl := (ifS (andB (boolM (cmpM .Eq (datA (ixM (slotA 0) (datA (constM (.str "digits"))))) (datA (constM (.int (0)))))) (boolM (cmpM .Lt (datA (ixM (slotA 0) (datA (constM (.str "at"))))) (datA (bcM lenW (consA (datA (ixM (slotA 0) (datA (constM (.str "cells"))))) nilA)))))) (seqM (setM [0] 2 (ixM (datA (ixM (slotA 0) (datA (constM (.str "cells"))))) (datA (ixM (slotA 0) (datA (constM (.str "at"))))))) (seqM (setSubM 0 (binM .Add (datA (ixM (slotA 0) (datA (constM (.str "at"))))) (datA (constM (.int (1))))) (datA (constM (.str "at")))) (seqM (ifS (boolM (cmpM .GtE (slotA 2) (datA (binM .Pow (datA (constM (.int (10)))) (datA (constM (.int (18)))))))) (seqM (setSubM 0 (binM .Sub (slotA 2) (datA (binM .Pow (datA (constM (.int (10)))) (datA (constM (.int (18))))))) (datA (constM (.str "digits")))) nextM) (seqM (setSubM 0 (binM .Mod (datA (bcM intW (consA (datA (binM .Add (datA (binM .Mult (datA (ixM (slotA 0) (datA (constM (.str "fold"))))) (datA (constM (.int (50021)))))) (slotA 2))) nilA))) (datA (constM (.int (2147482943))))) (datA (constM (.str "fold")))) nextM)) nextM))) nextM)
def dS3 : M Fl := (ifS (boolM (cmpM .Gt (datA (ixM (slotA 0) (datA (constM (.str "digits"))))) (datA (constM (.int (0)))))) (seqM (setM [0] 3 (binM .Mod (datA (bcM intW (consA (datA (ixM (slotA 0) (datA (constM (.str "digits"))))) nilA))) (slotA 1))) (seqM (setSubM 0 (binM .FloorDiv (datA (ixM (slotA 0) (datA (constM (.str "digits"))))) (slotA 1)) (datA (constM (.str "digits")))) (seqM (retS [0] 3) nextM))) nextM)
def dS4 : M Fl := (setM [0] 4 (binM .Add (datA (binM .Add (datA (ixM (slotA 0) (datA (constM (.str "fold"))))) (datA (binM .Mult (datA (ixM (slotA 0) (datA (constM (.str "count"))))) (datA (constM (.int (7507)))))))) (datA (constM (.int (239))))))
def dS5 : M Fl := (retM (binM .Mod (datA (binM .FloorDiv (datA (bcM intW (consA (datA (binM .Mod (datA (binM .Pow (slotA 4) (datA (constM (.int k61))))) (datA (constM (.int kBig))))) nilA))) (datA (constM (.int (2048)))))) (slotA 1)))
def drawM : M Fl := (seqM dS1 (seqM dS2 (seqM dS3 (seqM dS4 (seqM dS5 nextM)))))
def F_pen : FnSem := fnM 3 [false] penM
def F_draw : FnSem := fnM 5 [true, false] drawM
def penD (ns : List Int) (i dg ct fo : Int) : D := .dct [(.inr "cells", .lst (ns.map .int)), (.inr "at", .int i), (.inr "digits", .int dg), (.inr "count", .int ct), (.inr "fold", .int fo)]
section
variable (ns : List Int) (i dg ct fo x : Int)
theorem pen_cells : ixW (penD ns i dg ct fo) (.str "cells") = some (.d (.lst (ns.map .int))) := by kernel_rfl
theorem pen_at : ixW (penD ns i dg ct fo) (.str "at") = some (.d (.int i)) := by kernel_rfl
theorem pen_digits : ixW (penD ns i dg ct fo) (.str "digits") = some (.d (.int dg)) := by kernel_rfl
theorem pen_count : ixW (penD ns i dg ct fo) (.str "count") = some (.d (.int ct)) := by kernel_rfl
theorem pen_fold : ixW (penD ns i dg ct fo) (.str "fold") = some (.d (.int fo)) := by kernel_rfl
theorem put_at : setW (penD ns i dg ct fo) (.str "at") (.int x) = some (penD ns x dg ct fo) := by kernel_rfl
theorem put_digits : setW (penD ns i dg ct fo) (.str "digits") (.int x) = some (penD ns i x ct fo) := by kernel_rfl
theorem put_count : setW (penD ns i dg ct fo) (.str "count") (.int x) = some (penD ns i dg x fo) := by kernel_rfl
theorem put_fold : setW (penD ns i dg ct fo) (.str "fold") (.int x) = some (penD ns i dg ct x) := by kernel_rfl
end
theorem eq_int (a b : Int) : cmpW .Eq (.int a) (.int b) = some (.d (.bl (decide (a = b)))) := by
  have h : cmpW .Eq (.int a) (.int b) = some (.d (.bl (a == b))) := by kernel_rfl
  rw [h, Bool.beq_eq_decide_eq]
/-- what a draw does: the answer, the pen behind it -/
def afterD (ns : List Int) (i dg ct fo : Int) : Int × Int × Int :=
  if dg = 0 ∧ i < (ns.length : Int) then
    let cell := ns[i.toNat]?.getD 0
    if 1000000000000000000 ≤ cell then (i + 1, cell - 1000000000000000000, fo) else (i + 1, dg, (fo * 50021 + cell).fmod 2147482943)
  else (i, dg, fo)
theorem lt_int (a b : Int) : cmpW .Lt (.int a) (.int b) = some (.d (.bl (decide (a < b)))) := rfl
theorem gt_int (a b : Int) : cmpW .Gt (.int a) (.int b) = some (.d (.bl (decide (b < a)))) := rfl
theorem ge_int (a b : Int) : cmpW .GtE (.int a) (.int b) = some (.d (.bl (decide (b ≤ a)))) := rfl
theorem le_int (a b : Int) : cmpW .LtE (.int a) (.int b) = some (.d (.bl (decide (a ≤ b)))) := rfl
theorem ten18 : powW (.int 10) (.int 18) = some (.d (.int 1000000000000000000)) := by kernel_rfl
theorem mod_int {a b : Int} (h : b ≠ 0) : modW (.int a) (.int b) = some (.d (.int (a.fmod b))) := by
  show (if decide (b = 0) = true then none else _) = _
  rw [if_neg (by simpa using h)]
theorem fdiv_int {a b : Int} (h : b ≠ 0) (h2 : Builtin.divisionGoesByPylong a b = false) : fdivW (.int a) (.int b) = some (.d (.int (a.fdiv b))) := by
  show (if (!decide (b = 0) && !Builtin.divisionGoesByPylong a b) = true then _ else none) = _
  rw [if_pos (by simp [h, h2])]
theorem mul_int {a b : Int} (h : bitsOk a b = true) : mulW (.int a) (.int b) = some (.d (.int (a * b))) := by
  show (if bitsOk a b = true then _ else none) = _
  rw [if_pos h]
theorem bmod {a b : Int} (h : b ≠ 0) : binW .Mod (.int a) (.int b) = some (.d (.int (a.fmod b))) := mod_int h
theorem bdiv {a b : Int} (h : b ≠ 0) (h2 : Builtin.divisionGoesByPylong a b = false) : binW .FloorDiv (.int a) (.int b) = some (.d (.int (a.fdiv b))) := fdiv_int h h2
theorem bmul {a b : Int} (h : bitsOk a b = true) : binW .Mult (.int a) (.int b) = some (.d (.int (a * b))) := mul_int h
theorem badd (a b : Int) : binW .Add (.int a) (.int b) = some (.d (.int (a + b))) := rfl
theorem len_lst (ns : List Int) (h : ns.length ≤ 63) : lenW [.lst (ns.map .int)] = some (.d (.int (ns.length : Int))) := by
  unfold lenW
  simp
theorem at_lst {ns : List Int} {i cell : Int} (h2 : 0 ≤ i) (h3 : i < (ns.length : Int)) (hc : ns[i.toNat]? = some cell) : ixW (.lst (ns.map .int)) (.int i) = some (.d (.int cell)) := by
  show (L2.atI (ns.map D.int) i).map W.d = _
  unfold L2.atI L2.ixN
  rw [List.length_map, if_pos h2, if_pos h3]
  simp [hc]
theorem div_small {a b : Int} (h : b.natAbs < 2 ^ 64) : Builtin.divisionGoesByPylong a b = false := by
  unfold Builtin.divisionGoesByPylong
  have l : b.natAbs.log2 < 64 ∨ b = 0 := by
    by_cases hb : b = 0
    · exact .inr hb
    · exact .inl ((Nat.log2_lt (by omega)).mpr h)
  have d : decide ((if (b == 0) = true then 0 else b.natAbs.log2 / 30 + 1) > 300) = false := by
    apply decide_eq_false
    rcases l with l | l
    · split <;> omega
    · rw [l]; simp
  simp only [d, Bool.false_and]
theorem bits_small {a b : Int} (h1 : a.natAbs < 2 ^ 1000) (h2 : b.natAbs < 2 ^ 1000) : bitsOk a b = true := by
  have i1 := PyProof.Rows.intBits_le h1
  have i2 := PyProof.Rows.intBits_le h2
  unfold bitsOk
  apply decide_eq_true
  omega
theorem pow61 {a : Int} (h : a.natAbs < 2 ^ 64) : powW (.int a) (.int k61) = some (.d (.int (pw61 a))) := by
  show (if decide (0 ≤ (61 : Int) ∧ (61 : Int) ≤ 1000000 ∧ a.natAbs < 2 ^ 64) = true then _ else none) = _
  rw [if_pos (decide_eq_true ⟨by omega, by omega, h⟩)]
  rfl
theorem bpow61 {a : Int} (h : a.natAbs < 2 ^ 64) : binW .Pow (.int a) (.int k61) = some (.d (.int (pw61 a))) := pow61 h
theorem kBig_ne : kBig ≠ 0 := by unfold kBig; omega
/-- a pen as it stands behind at most B draws -/
def PenOk (B : Nat) (P : D) : Prop := ∃ (ns : List Int) (i dg ct fo : Int), P = penD ns i dg ct fo ∧ ns.length ≤ 63 ∧ 0 ≤ i ∧ 0 ≤ dg ∧ 0 ≤ ct ∧ ct ≤ (B : Int) ∧ 0 ≤ fo ∧ fo < 2147482943
def blendI (ct fo : Int) : Int := (pw61 (fo + ct * 7507 + 239)).fmod kBig
section
variable {ρ ρ1 ρ2 : Rho} {w : W} {x y : A} {a b : D}
theorem ev_dat {m : M W} (h : m ρ = .ok w ρ1) : datA m ρ = .ok (.val w.data) ρ1 := by
  show (m ρ).dat _ = _
  rw [h]
  rfl
theorem ev_op2 {φ : D → D → Option W} (h3 : x.res ρ = some a) (h4 : y.res ρ = some b) (h5 : φ a b = some w) : op2 φ x y ρ = .ok w ρ := by
  unfold op2
  rw [h3, h4]
  show liftM (φ a b) ρ = _
  rw [h5]
  rfl
theorem ev_bin {op : Operator} {ma mb : M A} (h1 : ma ρ = .ok x ρ1) (h2 : mb ρ1 = .ok y ρ2) (h3 : x.res ρ2 = some a) (h4 : y.res ρ2 = some b) (h5 : binW op a b = some w) : binM op ma mb ρ = .ok w ρ2 := by
  show (ma ρ).bind _ = _
  rw [h1]
  show (mb ρ1).bind _ = _
  rw [h2]
  exact ev_op2 h3 h4 h5
theorem ev_cmp {op : CmpOp} {ma mb : M A} (h1 : ma ρ = .ok x ρ1) (h2 : mb ρ1 = .ok y ρ2) (h3 : x.res ρ2 = some a) (h4 : y.res ρ2 = some b) (h5 : cmpW op a b = some w) : cmpM op ma mb ρ = .ok w ρ2 := by
  show (ma ρ).bind _ = _
  rw [h1]
  show (mb ρ1).bind _ = _
  rw [h2]
  exact ev_op2 h3 h4 h5
theorem ev_ix {ma mb : M A} (h1 : ma ρ = .ok x ρ1) (h2 : mb ρ1 = .ok y ρ2) (h3 : x.res ρ2 = some a) (h4 : y.res ρ2 = some b) (h5 : ixW a b = some w) : ixM ma mb ρ = .ok w ρ2 := by
  show (ma ρ).bind _ = _
  rw [h1]
  show (mb ρ1).bind _ = _
  rw [h2]
  exact ev_op2 h3 h4 h5
theorem ev_bc1 {φ : List D → Option W} {ma : M A} (h1 : ma ρ = .ok x ρ1) (h2 : x.res ρ1 = some a) (h3 : φ [a] = some w) : bcM φ (consA ma nilA) ρ = .ok w ρ1 := by
  show ((ma ρ).bind _).bind _ = _
  rw [h1]
  show opn φ [x] ρ1 = _
  unfold opn resAll
  rw [h2]
  show liftM (φ [a]) ρ1 = _
  rw [h3]
  rfl
theorem ev_bool {m : M W} {k : Bool} (h : m ρ = .ok (.d (.bl k)) ρ1) : boolM m ρ = .ok k ρ1 := by
  show (match m ρ with
    | .ok (.d (.bl b)) ρ => Res.ok b ρ
    | .exc c fs ρ => .exc c fs ρ
    | _ => .bad) = _
  rw [h]
theorem ev_set {io : List Nat} {i : Nat} {m : M W} (h : m ρ = .ok w ρ1) (hi : io.contains i = false) : setM io i m ρ = .ok .nx (ρ1.set i (some w)) := by
  show (m ρ).bind _ = _
  rw [h]
  show (if io.contains i = true then Res.bad else _) = _
  rw [hi]
  rfl
theorem ev_setSub {i : Nat} {mv : M W} {mi : M A} {c0 c c' k : D} (h1 : mv ρ = .ok w ρ1) (h2 : ρ1[i]? = some (some (.own c0))) (h3 : mi ρ1 = .ok x ρ2) (h4 : ρ2[i]? = some (some (.own c))) (h5 : x.res ρ2 = some k) (h6 : setW c k w.data = some c') :
    setSubM i mv mi ρ = .ok .nx (ρ2.set i (some (.own c'))) := by
  show (mv ρ).dat _ = _
  rw [h1]
  show (match ρ1[i]? with
    | some (some (.own _)) => (mi ρ1).bind fun a ρ => match ρ[i]?, a.res ρ with
      | some (some (.own c)), some k => match setW c k w.data with
        | some c' => Res.ok Fl.nx (ρ.set i (some (.own c')))
        | none => .bad
      | _, _ => .bad
    | _ => .bad) = _
  rw [h2]
  show (mi ρ1).bind _ = _
  rw [h3]
  show (match ρ2[i]?, x.res ρ2 with
      | some (some (.own c)), some k => match setW c k w.data with
        | some c' => Res.ok Fl.nx (ρ2.set i (some (.own c')))
        | none => .bad
      | _, _ => .bad) = _
  rw [h4, h5]
  show (match setW c k w.data with
        | some c' => Res.ok Fl.nx (ρ2.set i (some (.own c')))
        | none => .bad) = _
  rw [h6]
theorem ev_ret {m : M W} (h : m ρ = .ok w ρ1) : retM m ρ = .ok (.ret w) ρ1 := by
  show (m ρ).bind _ = _
  rw [h]
  rfl
theorem ev_if {t : M Bool} {m n : M Fl} {k : Bool} {r : Res Fl} (h : t ρ = .ok k ρ1) (h2 : (if k = true then m ρ1 else n ρ1) = r) : ifS t m n ρ = r := by
  show (t ρ).bind _ = _
  rw [h]
  exact h2
theorem ev_and {s t : M Bool} {k : Bool} {r : Res Bool} (h : s ρ = .ok k ρ1) (h2 : (if k = true then t ρ1 else .ok false ρ1) = r) : andB s t ρ = r := by
  show (s ρ).bind _ = _
  rw [h]
  exact h2
end
theorem seq_nx {s r : M Fl} {ρ ρ' : Rho} (h : s ρ = .ok .nx ρ') : seqM s r ρ = r ρ' := by
  show (s ρ).flow r = _
  rw [h]
  rfl
theorem seq_ret {s r : M Fl} {ρ ρ' : Rho} {w : W} (h : s ρ = .ok (.ret w) ρ') : seqM s r ρ = .ok (.ret w) ρ' := by
  show (s ρ).flow r = _
  rw [h]
  rfl
section
variable (ns : List Int) (i dg ct fo many : Int)
/-- the state of a draw: the pen, many, the cell, the digit, the blend -/
abbrev dR (a b c : Option W) : Rho := [some (.own (penD ns i dg ct fo)), some (.d (.int many)), a, b, c]
theorem d1_ok (a b c : Option W) : dS1 (dR ns i dg ct fo many a b c) = .ok .nx (dR ns i dg (ct + 1) fo many a b c) := by
  simp [dS1, dR, seqM, Res.flow, setSubM, Res.dat, Res.bind, W.data, binM, datA, ixM, slotA, slotM, constM, op2, A.res, liftM, binW, addW, subW, ifS, andB, boolM, cmpM, setM, bcM, consA, nilA, opn, resAll, intW, retS, retM, pen_cells, pen_at, pen_digits, pen_count, pen_fold, put_at, put_digits, put_count, put_fold, eq_int, lt_int, gt_int, ge_int, ten18, nextM]
theorem d2_new (a b c : Option W) (hl : ns.length ≤ 63) (h2 : 0 ≤ i) (h3 : i < (ns.length : Int)) (cell : Int) (hc : ns[i.toNat]? = some cell) (h4 : 1000000000000000000 ≤ cell) : dS2 (dR ns i 0 ct fo many a b c) = .ok .nx (dR ns (i + 1) (cell - 1000000000000000000) ct fo many (some (.d (.int cell))) b c) := by
  simp [dS2, dR, seqM, Res.flow, setSubM, Res.dat, Res.bind, W.data, binM, datA, ixM, slotA, slotM, constM, op2, A.res, liftM, binW, addW, subW, ifS, andB, boolM, cmpM, setM, bcM, consA, nilA, opn, resAll, intW, retS, retM, pen_cells, pen_at, pen_digits, pen_count, pen_fold, put_at, put_digits, put_count, put_fold, eq_int, lt_int, gt_int, ge_int, ten18, nextM, len_lst ns hl, at_lst h2 h3 hc, h3, h4]
theorem d2_test (a b c : Option W) (hl : ns.length ≤ 63) (h3 : i < (ns.length : Int)) :
    andB (boolM (cmpM .Eq (datA (ixM (slotA 0) (datA (constM (.str "digits"))))) (datA (constM (.int (0)))))) (boolM (cmpM .Lt (datA (ixM (slotA 0) (datA (constM (.str "at"))))) (datA (bcM lenW (consA (datA (ixM (slotA 0) (datA (constM (.str "cells"))))) nilA))))) (dR ns i 0 ct fo many a b c) = .ok true (dR ns i 0 ct fo many a b c) := by
  simp [dR, seqM, Res.flow, setSubM, Res.dat, Res.bind, W.data, binM, datA, ixM, slotA, slotM, constM, op2, A.res, liftM, binW, addW, subW, ifS, andB, boolM, cmpM, setM, bcM, consA, nilA, opn, resAll, intW, retS, retM, pen_cells, pen_at, pen_digits, pen_count, pen_fold, put_at, put_digits, put_count, put_fold, eq_int, lt_int, gt_int, ge_int, ten18, nextM, len_lst ns hl, h3]
theorem d2_cell (a b c : Option W) (h2 : 0 ≤ i) (h3 : i < (ns.length : Int)) (cell : Int) (hc : ns[i.toNat]? = some cell) :
    setM [0] 2 (ixM (datA (ixM (slotA 0) (datA (constM (.str "cells"))))) (datA (ixM (slotA 0) (datA (constM (.str "at")))))) (dR ns i 0 ct fo many a b c) = .ok .nx (dR ns i 0 ct fo many (some (.d (.int cell))) b c) := by
  simp [dR, seqM, Res.flow, setSubM, Res.dat, Res.bind, W.data, binM, datA, ixM, slotA, slotM, constM, op2, A.res, liftM, binW, addW, subW, ifS, andB, boolM, cmpM, setM, bcM, consA, nilA, opn, resAll, intW, retS, retM, pen_cells, pen_at, pen_digits, pen_count, pen_fold, put_at, put_digits, put_count, put_fold, eq_int, lt_int, gt_int, ge_int, ten18, nextM, at_lst h2 h3 hc]
theorem d2_at (a b c : Option W) :
    setSubM 0 (binM .Add (datA (ixM (slotA 0) (datA (constM (.str "at"))))) (datA (constM (.int (1))))) (datA (constM (.str "at"))) (dR ns i 0 ct fo many a b c) = .ok .nx (dR ns (i + 1) 0 ct fo many a b c) := by
  simp [dR, seqM, Res.flow, setSubM, Res.dat, Res.bind, W.data, binM, datA, ixM, slotA, slotM, constM, op2, A.res, liftM, binW, addW, subW, ifS, andB, boolM, cmpM, setM, bcM, consA, nilA, opn, resAll, intW, retS, retM, pen_cells, pen_at, pen_digits, pen_count, pen_fold, put_at, put_digits, put_count, put_fold, eq_int, lt_int, gt_int, ge_int, ten18, nextM]
theorem d2_big (b c : Option W) (cell : Int) (h4 : ¬ 1000000000000000000 ≤ cell) :
    boolM (cmpM .GtE (slotA 2) (datA (binM .Pow (datA (constM (.int (10)))) (datA (constM (.int (18))))))) (dR ns i 0 ct fo many (some (.d (.int cell))) b c) = .ok false (dR ns i 0 ct fo many (some (.d (.int cell))) b c) := by
  simp [dR, seqM, Res.flow, setSubM, Res.dat, Res.bind, W.data, binM, datA, ixM, slotA, slotM, constM, op2, A.res, liftM, binW, addW, subW, ifS, andB, boolM, cmpM, setM, bcM, consA, nilA, opn, resAll, intW, retS, retM, pen_cells, pen_at, pen_digits, pen_count, pen_fold, put_at, put_digits, put_count, put_fold, eq_int, lt_int, gt_int, ge_int, ten18, nextM, h4]
theorem d2_fold (b c : Option W) (cell : Int) (hf : bitsOk fo 50021 = true) :
    setSubM 0 (binM .Mod (datA (bcM intW (consA (datA (binM .Add (datA (binM .Mult (datA (ixM (slotA 0) (datA (constM (.str "fold"))))) (datA (constM (.int (50021)))))) (slotA 2))) nilA))) (datA (constM (.int (2147482943))))) (datA (constM (.str "fold"))) (dR ns i 0 ct fo many (some (.d (.int cell))) b c) = .ok .nx (dR ns i 0 ct ((fo * 50021 + cell).fmod 2147482943) many (some (.d (.int cell))) b c) := by
  have d0 : (2147482943 : Int) ≠ 0 := by omega
  have e1 : binM .Mult (datA (ixM (slotA 0) (datA (constM (.str "fold"))))) (datA (constM (.int (50021)))) (dR ns i 0 ct fo many (some (.d (.int cell))) b c) = .ok (.d (.int (fo * 50021))) (dR ns i 0 ct fo many (some (.d (.int cell))) b c) :=
    ev_bin (ev_dat (ev_ix (w := .d (.int fo)) rfl rfl rfl rfl (pen_fold ns i 0 ct fo))) rfl rfl rfl (bmul hf)
  have e2 : binM .Add (datA (binM .Mult (datA (ixM (slotA 0) (datA (constM (.str "fold"))))) (datA (constM (.int (50021)))))) (slotA 2) (dR ns i 0 ct fo many (some (.d (.int cell))) b c) = .ok (.d (.int (fo * 50021 + cell))) (dR ns i 0 ct fo many (some (.d (.int cell))) b c) :=
    ev_bin (ev_dat e1) rfl rfl rfl (badd _ _)
  have e3 : bcM intW (consA (datA (binM .Add (datA (binM .Mult (datA (ixM (slotA 0) (datA (constM (.str "fold"))))) (datA (constM (.int (50021)))))) (slotA 2))) nilA) (dR ns i 0 ct fo many (some (.d (.int cell))) b c) = .ok (.d (.int (fo * 50021 + cell))) (dR ns i 0 ct fo many (some (.d (.int cell))) b c) :=
    ev_bc1 (ev_dat e2) rfl rfl
  have e4 : binM .Mod (datA (bcM intW (consA (datA (binM .Add (datA (binM .Mult (datA (ixM (slotA 0) (datA (constM (.str "fold"))))) (datA (constM (.int (50021)))))) (slotA 2))) nilA))) (datA (constM (.int (2147482943)))) (dR ns i 0 ct fo many (some (.d (.int cell))) b c) = .ok (.d (.int ((fo * 50021 + cell).fmod 2147482943))) (dR ns i 0 ct fo many (some (.d (.int cell))) b c) :=
    ev_bin (ev_dat e3) rfl rfl rfl (bmod d0)
  exact ev_setSub e4 rfl rfl rfl rfl (put_fold ns i 0 ct fo _)
theorem d2_old (a b c : Option W) (hl : ns.length ≤ 63) (h2 : 0 ≤ i) (h3 : i < (ns.length : Int)) (cell : Int) (hc : ns[i.toNat]? = some cell) (h4 : ¬ 1000000000000000000 ≤ cell) (hf : bitsOk fo 50021 = true) : dS2 (dR ns i 0 ct fo many a b c) = .ok .nx (dR ns (i + 1) 0 ct ((fo * 50021 + cell).fmod 2147482943) many (some (.d (.int cell))) b c) := by
  unfold dS2
  refine ev_if (d2_test ns i ct fo many a b c hl h3) ?_
  rw [if_pos rfl, seq_nx (d2_cell ns i ct fo many a b c h2 h3 cell hc), seq_nx (d2_at ns i ct fo many _ b c)]
  refine (seq_nx (ρ' := dR ns (i + 1) 0 ct ((fo * 50021 + cell).fmod 2147482943) many (some (.d (.int cell))) b c) (ev_if (d2_big ns (i + 1) ct fo many b c cell h4) ?_)).trans rfl
  rw [if_neg (by decide), seq_nx (d2_fold ns (i + 1) ct fo many b c cell hf)]
  rfl
theorem d2_end (a b c : Option W) (hl : ns.length ≤ 63) (h3 : ¬ i < (ns.length : Int)) : dS2 (dR ns i 0 ct fo many a b c) = .ok .nx (dR ns i 0 ct fo many a b c) := by
  simp [dS2, dR, seqM, Res.flow, setSubM, Res.dat, Res.bind, W.data, binM, datA, ixM, slotA, slotM, constM, op2, A.res, liftM, binW, addW, subW, ifS, andB, boolM, cmpM, setM, bcM, consA, nilA, opn, resAll, intW, retS, retM, pen_cells, pen_at, pen_digits, pen_count, pen_fold, put_at, put_digits, put_count, put_fold, eq_int, lt_int, gt_int, ge_int, ten18, nextM, len_lst ns hl, h3]
theorem d2_skip (a b c : Option W) (h : dg ≠ 0) : dS2 (dR ns i dg ct fo many a b c) = .ok .nx (dR ns i dg ct fo many a b c) := by
  simp [dS2, dR, seqM, Res.flow, setSubM, Res.dat, Res.bind, W.data, binM, datA, ixM, slotA, slotM, constM, op2, A.res, liftM, binW, addW, subW, ifS, andB, boolM, cmpM, setM, bcM, consA, nilA, opn, resAll, intW, retS, retM, pen_cells, pen_at, pen_digits, pen_count, pen_fold, put_at, put_digits, put_count, put_fold, eq_int, lt_int, gt_int, ge_int, ten18, nextM, h]
theorem d3_ret (a b c : Option W) (h : 0 < dg) (hm : many ≠ 0) (hm2 : many.natAbs < 2 ^ 64) : dS3 (dR ns i dg ct fo many a b c) = .ok (.ret (.d (.int (dg.fmod many)))) (dR ns i (dg.fdiv many) ct fo many a (some (.d (.int (dg.fmod many)))) c) := by
  simp [dS3, dR, seqM, Res.flow, setSubM, Res.dat, Res.bind, W.data, binM, datA, ixM, slotA, slotM, constM, op2, A.res, liftM, binW, addW, subW, ifS, andB, boolM, cmpM, setM, bcM, consA, nilA, opn, resAll, intW, retS, retM, pen_cells, pen_at, pen_digits, pen_count, pen_fold, put_at, put_digits, put_count, put_fold, eq_int, lt_int, gt_int, ge_int, ten18, nextM, h, mod_int hm, fdiv_int hm (div_small hm2)]
theorem d3_skip (a b c : Option W) : dS3 (dR ns i 0 ct fo many a b c) = .ok .nx (dR ns i 0 ct fo many a b c) := by
  simp [dS3, dR, seqM, Res.flow, setSubM, Res.dat, Res.bind, W.data, binM, datA, ixM, slotA, slotM, constM, op2, A.res, liftM, binW, addW, subW, ifS, andB, boolM, cmpM, setM, bcM, consA, nilA, opn, resAll, intW, retS, retM, pen_cells, pen_at, pen_digits, pen_count, pen_fold, put_at, put_digits, put_count, put_fold, eq_int, lt_int, gt_int, ge_int, ten18, nextM]
theorem d4_a (a b c : Option W) : ixM (slotA 0) (datA (constM (.str "fold"))) (dR ns i dg ct fo many a b c) = .ok (.d (.int fo)) (dR ns i dg ct fo many a b c) := ev_ix rfl rfl rfl rfl (pen_fold ns i dg ct fo)
theorem d4_b (a b c : Option W) : ixM (slotA 0) (datA (constM (.str "count"))) (dR ns i dg ct fo many a b c) = .ok (.d (.int ct)) (dR ns i dg ct fo many a b c) := ev_ix rfl rfl rfl rfl (pen_count ns i dg ct fo)
theorem d4_c (a b c : Option W) (hb : bitsOk ct 7507 = true) : binM .Mult (datA (ixM (slotA 0) (datA (constM (.str "count"))))) (datA (constM (.int (7507)))) (dR ns i dg ct fo many a b c) = .ok (.d (.int (ct * 7507))) (dR ns i dg ct fo many a b c) := ev_bin (ev_dat (d4_b ns i dg ct fo many a b c)) rfl rfl rfl (bmul hb)
theorem d4_d (a b c : Option W) (hb : bitsOk ct 7507 = true) : binM .Add (datA (ixM (slotA 0) (datA (constM (.str "fold"))))) (datA (binM .Mult (datA (ixM (slotA 0) (datA (constM (.str "count"))))) (datA (constM (.int (7507)))))) (dR ns i dg ct fo many a b c) = .ok (.d (.int (fo + ct * 7507))) (dR ns i dg ct fo many a b c) := ev_bin (ev_dat (d4_a ns i dg ct fo many a b c)) (ev_dat (d4_c ns i dg ct fo many a b c hb)) rfl rfl (badd _ _)
theorem d4_e (a b c : Option W) (hb : bitsOk ct 7507 = true) : binM .Add (datA (binM .Add (datA (ixM (slotA 0) (datA (constM (.str "fold"))))) (datA (binM .Mult (datA (ixM (slotA 0) (datA (constM (.str "count"))))) (datA (constM (.int (7507)))))))) (datA (constM (.int (239)))) (dR ns i dg ct fo many a b c) = .ok (.d (.int (fo + ct * 7507 + 239))) (dR ns i dg ct fo many a b c) := ev_bin (ev_dat (d4_d ns i dg ct fo many a b c hb)) rfl rfl rfl (badd _ _)
theorem d4_ok (a b c : Option W) (hb : bitsOk ct 7507 = true) : dS4 (dR ns i dg ct fo many a b c) = .ok .nx (dR ns i dg ct fo many a b (some (.d (.int (fo + ct * 7507 + 239))))) := ev_set (d4_e ns i dg ct fo many a b c hb) rfl
theorem z0 (a b : Option W) (z : Int) (hp : z.natAbs < 2 ^ 64) : binM .Pow (slotA 4) (datA (constM (.int k61))) (dR ns i dg ct fo many a b (some (.d (.int z)))) = .ok (.d (.int (pw61 z))) (dR ns i dg ct fo many a b (some (.d (.int z)))) := ev_bin rfl rfl rfl rfl (bpow61 hp)
theorem z1 (a b : Option W) (z : Int) (hp : z.natAbs < 2 ^ 64) : binM .Mod (datA (binM .Pow (slotA 4) (datA (constM (.int k61))))) (datA (constM (.int kBig))) (dR ns i dg ct fo many a b (some (.d (.int z)))) = .ok (.d (.int ((pw61 z).fmod kBig))) (dR ns i dg ct fo many a b (some (.d (.int z)))) := ev_bin (ev_dat (z0 ns i dg ct fo many a b z hp)) rfl rfl rfl (bmod kBig_ne)
theorem z2 (a b : Option W) (z : Int) (hp : z.natAbs < 2 ^ 64) : bcM intW (consA (datA (binM .Mod (datA (binM .Pow (slotA 4) (datA (constM (.int k61))))) (datA (constM (.int kBig))))) nilA) (dR ns i dg ct fo many a b (some (.d (.int z)))) = .ok (.d (.int ((pw61 z).fmod kBig))) (dR ns i dg ct fo many a b (some (.d (.int z)))) := ev_bc1 (ev_dat (z1 ns i dg ct fo many a b z hp)) rfl rfl
theorem z3a (x : Int) : binW .FloorDiv (.int x) (.int 2048) = some (.d (.int (x.fdiv 2048))) := bdiv (by omega) (div_small (b := 2048) (by decide))
theorem z3 (a b : Option W) (z : Int) (hp : z.natAbs < 2 ^ 64) : binM .FloorDiv (datA (bcM intW (consA (datA (binM .Mod (datA (binM .Pow (slotA 4) (datA (constM (.int k61))))) (datA (constM (.int kBig))))) nilA))) (datA (constM (.int 2048))) (dR ns i dg ct fo many a b (some (.d (.int z)))) = .ok (.d (.int (((pw61 z).fmod kBig).fdiv 2048))) (dR ns i dg ct fo many a b (some (.d (.int z)))) := ev_bin (ev_dat (z2 ns i dg ct fo many a b z hp)) rfl rfl rfl (z3a _)
theorem z4 (a b : Option W) (z : Int) (hm : many ≠ 0) (hp : z.natAbs < 2 ^ 64) : binM .Mod (datA (binM .FloorDiv (datA (bcM intW (consA (datA (binM .Mod (datA (binM .Pow (slotA 4) (datA (constM (.int k61))))) (datA (constM (.int kBig))))) nilA))) (datA (constM (.int 2048))))) (slotA 1) (dR ns i dg ct fo many a b (some (.d (.int z)))) = .ok (.d (.int ((((pw61 z).fmod kBig).fdiv 2048).fmod many))) (dR ns i dg ct fo many a b (some (.d (.int z)))) := ev_bin (ev_dat (z3 ns i dg ct fo many a b z hp)) rfl rfl rfl (bmod hm)
theorem d5_ok (a b : Option W) (z : Int) (hm : many ≠ 0) (hp : z.natAbs < 2 ^ 64) : dS5 (dR ns i dg ct fo many a b (some (.d (.int z)))) = .ok (.ret (.d (.int ((((pw61 z).fmod kBig).fdiv 2048).fmod many)))) (dR ns i dg ct fo many a b (some (.d (.int z)))) := ev_ret (z4 ns i dg ct fo many a b z hm hp)
theorem draw_of {w : W} {i' dg' ct' fo' : Int} {a b c : Option W} (h : drawM (dR ns i dg ct fo many none none none) = .ok (.ret w) (dR ns i' dg' ct' fo' many a b c)) : F_draw [.own (penD ns i dg ct fo), .d (.int many)] = .ok w [.own (penD ns i' dg' ct' fo'), .d .non] := by
  have e : F_draw [.own (penD ns i dg ct fo), .d (.int many)] = (match drawM (dR ns i dg ct fo many none none none) with
      | .ok .nx ρ => finF [.own (penD ns i dg ct fo), .d (.int many)] (.d .non) ρ
      | .ok (.ret w) ρ => finF [.own (penD ns i dg ct fo), .d (.int many)] w ρ
      | .exc c fs ρ => match outsOf ρ 0 [.own (penD ns i dg ct fo), .d (.int many)] with
        | some os => .exc c fs os
        | none => .bad
      | _ => .bad) := rfl
  rw [e, h]
  rfl
theorem draw_new (hl : ns.length ≤ 63) (h2 : 0 ≤ i) (h3 : i < (ns.length : Int)) (cell : Int) (hc : ns[i.toNat]? = some cell) (h4 : 1000000000000000000 ≤ cell) (h5 : 1000000000000000000 < cell) (hm : many ≠ 0) (hm2 : many.natAbs < 2 ^ 64) :
    F_draw [.own (penD ns i 0 ct fo), .d (.int many)] = .ok (.d (.int ((cell - 1000000000000000000).fmod many))) [.own (penD ns (i + 1) ((cell - 1000000000000000000).fdiv many) (ct + 1) fo), .d .non] := by
  have e : drawM (dR ns i 0 ct fo many none none none) = .ok (.ret (.d (.int ((cell - 1000000000000000000).fmod many)))) (dR ns (i + 1) ((cell - 1000000000000000000).fdiv many) (ct + 1) fo many (some (.d (.int cell))) (some (.d (.int ((cell - 1000000000000000000).fmod many)))) none) := by
    unfold drawM
    rw [seq_nx (d1_ok ns i 0 ct fo many none none none), seq_nx (d2_new ns i (ct + 1) fo many none none none hl h2 h3 cell hc h4), seq_ret (d3_ret ns (i + 1) (cell - 1000000000000000000) (ct + 1) fo many _ none none (by omega) hm hm2)]
  exact draw_of ns i 0 ct fo many e
theorem draw_on (h : 0 < dg) (hm : many ≠ 0) (hm2 : many.natAbs < 2 ^ 64) :
    F_draw [.own (penD ns i dg ct fo), .d (.int many)] = .ok (.d (.int (dg.fmod many))) [.own (penD ns i (dg.fdiv many) (ct + 1) fo), .d .non] := by
  have e : drawM (dR ns i dg ct fo many none none none) = .ok (.ret (.d (.int (dg.fmod many)))) (dR ns i (dg.fdiv many) (ct + 1) fo many none (some (.d (.int (dg.fmod many)))) none) := by
    unfold drawM
    rw [seq_nx (d1_ok ns i dg ct fo many none none none), seq_nx (d2_skip ns i dg (ct + 1) fo many none none none (by omega)), seq_ret (d3_ret ns i dg (ct + 1) fo many none none none h hm hm2)]
  exact draw_of ns i dg ct fo many e
theorem draw_tail (a : Option W) (hm : many ≠ 0) (hb : bitsOk ct 7507 = true) (hp : (fo + ct * 7507 + 239).natAbs < 2 ^ 64) : (seqM dS3 (seqM dS4 (seqM dS5 nextM))) (dR ns i 0 ct fo many a none none) = .ok (.ret (.d (.int (((blendI ct fo).fdiv 2048).fmod many)))) (dR ns i 0 ct fo many a none (some (.d (.int (fo + ct * 7507 + 239))))) := by
  rw [seq_nx (d3_skip ns i ct fo many a none none), seq_nx (d4_ok ns i 0 ct fo many a none none hb), seq_ret (d5_ok ns i 0 ct fo many a none _ hm hp)]
  rfl
theorem draw_blend0 (hl : ns.length ≤ 63) (h3 : ¬ i < (ns.length : Int)) (hm : many ≠ 0) (hb : bitsOk (ct + 1) 7507 = true) (hp : (fo + (ct + 1) * 7507 + 239).natAbs < 2 ^ 64) :
    F_draw [.own (penD ns i 0 ct fo), .d (.int many)] = .ok (.d (.int (((blendI (ct + 1) fo).fdiv 2048).fmod many))) [.own (penD ns i 0 (ct + 1) fo), .d .non] := by
  have e : drawM (dR ns i 0 ct fo many none none none) = .ok (.ret (.d (.int (((blendI (ct + 1) fo).fdiv 2048).fmod many)))) (dR ns i 0 (ct + 1) fo many none none (some (.d (.int (fo + (ct + 1) * 7507 + 239))))) := by
    unfold drawM
    rw [seq_nx (d1_ok ns i 0 ct fo many none none none), seq_nx (d2_end ns i (ct + 1) fo many none none none hl h3), draw_tail ns i (ct + 1) fo many none hm hb hp]
  exact draw_of ns i 0 ct fo many e
theorem draw_blend1 (hl : ns.length ≤ 63) (h2 : 0 ≤ i) (h3 : i < (ns.length : Int)) (cell : Int) (hc : ns[i.toNat]? = some cell) (h4 : ¬ 1000000000000000000 ≤ cell) (hm : many ≠ 0) (hf : bitsOk fo 50021 = true) (hb : bitsOk (ct + 1) 7507 = true)
    (hp : ((fo * 50021 + cell).fmod 2147482943 + (ct + 1) * 7507 + 239).natAbs < 2 ^ 64) :
    F_draw [.own (penD ns i 0 ct fo), .d (.int many)] = .ok (.d (.int (((blendI (ct + 1) ((fo * 50021 + cell).fmod 2147482943)).fdiv 2048).fmod many))) [.own (penD ns (i + 1) 0 (ct + 1) ((fo * 50021 + cell).fmod 2147482943)), .d .non] := by
  have e : drawM (dR ns i 0 ct fo many none none none) = .ok (.ret (.d (.int (((blendI (ct + 1) ((fo * 50021 + cell).fmod 2147482943)).fdiv 2048).fmod many)))) (dR ns (i + 1) 0 (ct + 1) ((fo * 50021 + cell).fmod 2147482943) many (some (.d (.int cell))) none (some (.d (.int ((fo * 50021 + cell).fmod 2147482943 + (ct + 1) * 7507 + 239))))) := by
    unfold drawM
    rw [seq_nx (d1_ok ns i 0 ct fo many none none none), seq_nx (d2_old ns i (ct + 1) fo many none none none hl h2 h3 cell hc h4 hf), draw_tail ns (i + 1) (ct + 1) _ many _ hm hb hp]
  exact draw_of ns i 0 ct fo many e
theorem draw_blend2 (hl : ns.length ≤ 63) (h2 : 0 ≤ i) (h3 : i < (ns.length : Int)) (hc : ns[i.toNat]? = some 1000000000000000000) (hm : many ≠ 0) (hb : bitsOk (ct + 1) 7507 = true) (hp : (fo + (ct + 1) * 7507 + 239).natAbs < 2 ^ 64) :
    F_draw [.own (penD ns i 0 ct fo), .d (.int many)] = .ok (.d (.int (((blendI (ct + 1) fo).fdiv 2048).fmod many))) [.own (penD ns (i + 1) 0 (ct + 1) fo), .d .non] := by
  have d2 := d2_new ns i (ct + 1) fo many none none none hl h2 h3 1000000000000000000 hc (by omega)
  rw [show (1000000000000000000 : Int) - 1000000000000000000 = 0 by omega] at d2
  have e : drawM (dR ns i 0 ct fo many none none none) = .ok (.ret (.d (.int (((blendI (ct + 1) fo).fdiv 2048).fmod many)))) (dR ns (i + 1) 0 (ct + 1) fo many (some (.d (.int 1000000000000000000))) none (some (.d (.int (fo + (ct + 1) * 7507 + 239))))) := by
    unfold drawM
    rw [seq_nx (d1_ok ns i 0 ct fo many none none none), seq_nx d2, draw_tail ns (i + 1) (ct + 1) fo many _ hm hb hp]
  exact draw_of ns i 0 ct fo many e
end
theorem fmod_in {a b : Int} (h : 0 < b) : 0 ≤ a.fmod b ∧ a.fmod b < b := by
  rw [Int.fmod_eq_emod_of_nonneg a (by omega)]
  exact ⟨Int.emod_nonneg a (by omega), Int.emod_lt_of_pos a h⟩
theorem fdiv_in {a b : Int} (h : 0 < b) (ha : 0 ≤ a) : 0 ≤ a.fdiv b := by
  rw [Int.fdiv_eq_ediv_of_nonneg a (by omega)]
  exact Int.ediv_nonneg ha (by omega)
/-- EVERY draw: a number below many, and the pen goes on -/
theorem draw_ok {B : Nat} {P : D} {many : Int} (h : PenOk B P) (hB : B < 2 ^ 40) (h1 : 0 < many) (h2 : many < 2 ^ 62) : ∃ (r : Int) (P' : D), 0 ≤ r ∧ r < many ∧ PenOk (B + 1) P' ∧ F_draw [.own P, .d (.int many)] = .ok (.d (.int r)) [.own P', .d .non] := by
  obtain ⟨ns, i, dg, ct, fo, rfl, hl, hi, hd, hc0, hc1, hf0, hf1⟩ := h
  have m0 : many ≠ 0 := by omega
  have m1 : many.natAbs < 2 ^ 64 := by omega
  have b1 : bitsOk (ct + 1) 7507 = true := by
    refine bits_small (Nat.lt_trans (show _ < 2 ^ 64 by omega) ?_) (Nat.lt_trans (show _ < 2 ^ 64 by decide) ?_)
    · exact Nat.pow_lt_pow_right (by omega) (by omega)
    · exact Nat.pow_lt_pow_right (by omega) (by omega)
  have b2 : bitsOk fo 50021 = true := by
    refine bits_small (Nat.lt_trans (show _ < 2 ^ 64 by omega) ?_) (Nat.lt_trans (show _ < 2 ^ 64 by decide) ?_)
    · exact Nat.pow_lt_pow_right (by omega) (by omega)
    · exact Nat.pow_lt_pow_right (by omega) (by omega)
  have cB : ct + 1 ≤ ((B + 1 : Nat) : Int) := by omega
  have blend : ∀ f : Int, 0 ≤ f → f < 2147482943 → (f + (ct + 1) * 7507 + 239).natAbs < 2 ^ 64 := fun f g0 g1 => by omega
  by_cases d0 : dg = 0
  · subst d0
    by_cases hi2 : i < (ns.length : Int)
    · have hlt : i.toNat < ns.length := by omega
      obtain ⟨cell, hc⟩ : ∃ cell, ns[i.toNat]? = some cell := ⟨_, List.getElem?_eq_getElem hlt⟩
      by_cases big : 1000000000000000000 ≤ cell
      · by_cases eq : cell = 1000000000000000000
        · subst eq
          exact ⟨_, _, (fmod_in h1).1, (fmod_in h1).2, ⟨ns, i + 1, 0, ct + 1, fo, rfl, hl, by omega, by omega, by omega, cB, hf0, hf1⟩, draw_blend2 ns i ct fo many hl hi hi2 hc m0 b1 (blend fo hf0 hf1)⟩
        · have gt : 1000000000000000000 < cell := by omega
          exact ⟨_, _, (fmod_in h1).1, (fmod_in h1).2, ⟨ns, i + 1, _, ct + 1, fo, rfl, hl, by omega, fdiv_in h1 (by omega), by omega, cB, hf0, hf1⟩, draw_new ns i ct fo many hl hi hi2 cell hc big gt m0 m1⟩
      · have fm := fmod_in (a := fo * 50021 + cell) (b := 2147482943) (by omega)
        exact ⟨_, _, (fmod_in h1).1, (fmod_in h1).2, ⟨ns, i + 1, 0, ct + 1, _, rfl, hl, by omega, by omega, by omega, cB, fm.1, fm.2⟩, draw_blend1 ns i ct fo many hl hi hi2 cell hc big m0 b2 b1 (blend _ fm.1 fm.2)⟩
    · exact ⟨_, _, (fmod_in h1).1, (fmod_in h1).2, ⟨ns, i, 0, ct + 1, fo, rfl, hl, hi, by omega, by omega, cB, hf0, hf1⟩, draw_blend0 ns i ct fo many hl hi2 m0 b1 (blend fo hf0 hf1)⟩
  · have pos : 0 < dg := by omega
    exact ⟨_, _, (fmod_in h1).1, (fmod_in h1).2, ⟨ns, i, _, ct + 1, fo, rfl, hl, hi, fdiv_in h1 hd, by omega, cB, hf0, hf1⟩, draw_on ns i dg ct fo many pos m0 m1⟩
theorem forM_nx {g : D → M Unit} {b : M Fl} {x : D} {xs : List D} {ρ ρ1 ρ2 : Rho} (h : g x ρ = .ok () ρ1) (h2 : b ρ1 = .ok .nx ρ2) : forM g b (x :: xs) ρ = forM g b xs ρ2 := by
  show ((g x ρ).bind fun _ ρ => (b ρ).loop (forM g b xs)) = _
  rw [h]
  show (b ρ1).loop (forM g b xs) = _
  rw [h2]
  rfl
theorem nextM_ok (ρ : Rho) : nextM ρ = .ok .nx ρ := rfl
def pB : M Fl := setM [] 1 (binM .Mod (datA (bcM intW (consA (datA (binM .Add (datA (binM .Mult (slotA 1) (datA (constM (.int (199)))))) (slotA 2))) nilA))) (datA (constM (.int (999998689)))))
abbrev pR (ns : List Int) (fo : Int) (c : Option W) : Rho := [some (.d (.scr ns)), some (.d (.int fo)), c]
section
variable (ns : List Int) (fo cell : Int)
theorem p_a (hb : bitsOk fo 199 = true) : binM .Mult (slotA 1) (datA (constM (.int (199)))) (pR ns fo (some (.d (.int cell)))) = .ok (.d (.int (fo * 199))) (pR ns fo (some (.d (.int cell)))) := ev_bin rfl rfl rfl rfl (bmul hb)
theorem p_b (hb : bitsOk fo 199 = true) : binM .Add (datA (binM .Mult (slotA 1) (datA (constM (.int (199)))))) (slotA 2) (pR ns fo (some (.d (.int cell)))) = .ok (.d (.int (fo * 199 + cell))) (pR ns fo (some (.d (.int cell)))) := ev_bin (ev_dat (p_a ns fo cell hb)) rfl rfl rfl (badd _ _)
theorem p_c (hb : bitsOk fo 199 = true) : bcM intW (consA (datA (binM .Add (datA (binM .Mult (slotA 1) (datA (constM (.int (199)))))) (slotA 2))) nilA) (pR ns fo (some (.d (.int cell)))) = .ok (.d (.int (fo * 199 + cell))) (pR ns fo (some (.d (.int cell)))) := ev_bc1 (ev_dat (p_b ns fo cell hb)) rfl rfl
theorem p_d (hb : bitsOk fo 199 = true) : binM .Mod (datA (bcM intW (consA (datA (binM .Add (datA (binM .Mult (slotA 1) (datA (constM (.int (199)))))) (slotA 2))) nilA))) (datA (constM (.int (999998689)))) (pR ns fo (some (.d (.int cell)))) = .ok (.d (.int ((fo * 199 + cell).fmod 999998689))) (pR ns fo (some (.d (.int cell)))) := ev_bin (ev_dat (p_c ns fo cell hb)) rfl rfl rfl (bmod (by omega))
theorem p_e (hb : bitsOk fo 199 = true) : pB (pR ns fo (some (.d (.int cell)))) = .ok .nx (pR ns ((fo * 199 + cell).fmod 999998689) (some (.d (.int cell)))) := ev_set (p_d ns fo cell hb) rfl
end
theorem pen_loop (ns : List Int) : ∀ (cs : List Int) (fo : Int) (c : Option W), 0 ≤ fo → fo < 999998689 → ∃ (fo' : Int) (c' : Option W), 0 ≤ fo' ∧ fo' < 999998689 ∧ forM (nameG [] 2) (seqM pB nextM) (cs.map .int) (pR ns fo c) = .ok .nx (pR ns fo' c')
  | [], fo, c, h0, h1 => ⟨fo, c, h0, h1, rfl⟩
  | z :: cs, fo, c, h0, h1 => by
    have hb : bitsOk fo 199 = true := by
      refine bits_small (Nat.lt_trans (show _ < 2 ^ 64 by omega) ?_) (Nat.lt_trans (show _ < 2 ^ 64 by decide) ?_)
      · exact Nat.pow_lt_pow_right (by omega) (by omega)
      · exact Nat.pow_lt_pow_right (by omega) (by omega)
    have fm := fmod_in (a := fo * 199 + z) (b := 999998689) (by omega)
    obtain ⟨fo', c', g0, g1, e⟩ := pen_loop ns cs ((fo * 199 + z).fmod 999998689) (some (.d (.int z))) fm.1 fm.2
    refine ⟨fo', c', g0, g1, ?_⟩
    have st : (seqM pB nextM) (pR ns fo (some (.d (.int z)))) = .ok .nx (pR ns ((fo * 199 + z).fmod 999998689) (some (.d (.int z)))) := by
      rw [seq_nx (p_e ns fo z hb)]
      exact nextM_ok _
    have nm : nameG [] 2 (D.int z) (pR ns fo c) = .ok () (pR ns fo (some (.d (.int z)))) := rfl
    rw [List.map_cons, forM_nx nm st]
    exact e
theorem pen_end (ns : List Int) (fo : Int) (c : Option W) : (retM (dictM [(.inr "cells", (bcM listW (consA (slotA 0) nilA))), (.inr "at", (constM (.int (0)))), (.inr "digits", (constM (.int (0)))), (.inr "count", (constM (.int (0)))), (.inr "fold", (slotM 1))])) (pR ns fo c) = .ok (.ret (.own (penD ns 0 0 0 fo))) (pR ns fo c) := by kernel_rfl
theorem penM_is : penM = seqM (setM [] 1 (constM (.int (0)))) (seqM (forS (iterM (slotM 0)) (nameG [] 2) (seqM pB nextM)) (seqM (retM (dictM [(.inr "cells", (bcM listW (consA (slotA 0) nilA))), (.inr "at", (constM (.int (0)))), (.inr "digits", (constM (.int (0)))), (.inr "count", (constM (.int (0)))), (.inr "fold", (slotM 1))])) nextM)) := rfl
/-- EVERY script makes a pen -/
theorem pen_ok (ns : List Int) (hl : ns.length ≤ 63) : ∃ P, PenOk 0 P ∧ F_pen [.d (.scr ns)] = .ok (.own P) [.d .non] := by
  obtain ⟨fo, c, h0, h1, e⟩ := pen_loop ns ns 0 none (by omega) (by omega)
  refine ⟨penD ns 0 0 0 fo, ⟨ns, 0, 0, 0, fo, rfl, hl, by omega, by omega, by omega, by omega, h0, by omega⟩, ?_⟩
  have f : forS (iterM (slotM 0)) (nameG [] 2) (seqM pB nextM) (pR ns 0 none) = .ok .nx (pR ns fo c) := e
  have st : (setM [] 1 (constM (.int (0)))) [some (.d (.scr ns)), none, none] = .ok .nx (pR ns 0 none) := rfl
  have m : penM [some (.d (.scr ns)), none, none] = .ok (.ret (.own (penD ns 0 0 0 fo))) (pR ns fo c) := by
    rw [penM_is, seq_nx st, seq_nx f, seq_ret (pen_end ns fo c)]
  have u : F_pen [.d (.scr ns)] = (match penM [some (.d (.scr ns)), none, none] with
      | .ok .nx ρ => finF [.d (.scr ns)] (.d .non) ρ
      | .ok (.ret w) ρ => finF [.d (.scr ns)] w ρ
      | .exc c fs ρ => match outsOf ρ 0 [.d (.scr ns)] with
        | some os => .exc c fs os
        | none => .bad
      | _ => .bad) := rfl
  rw [u, m]
  rfl
end FL
set_option Elab.async false
set_option linter.all false
set_option maxRecDepth 100000
set_option maxHeartbeats 2000000
namespace FL
open PySem PySem.Spec L2
open PyProof.Rows hiding St
section
variable {ρ ρ1 ρ2 ρ3 : Rho} {w w1 w2 : W} {x y : A} {a b : FL.D} {F : FnSem}
theorem ev_call1 {m : M A} (h1 : m ρ = .ok (.val a) ρ1) (hf : F [.d a] = .ok w [.d .non]) : callM F (consA m nilA) ρ = .ok w ρ1 := by
  show ((m ρ).bind _).bind _ = _
  rw [h1]
  show (match F [.d a] with
      | .ok w outs => .ok w (setOuts [.val a] outs ρ1)
      | .exc c fs outs => .exc c fs (setOuts [.val a] outs ρ1)
      | .bad => .bad : Res W) = _
  rw [hf]
  rfl
theorem ev_call2 {m n : M A} (h1 : m ρ = .ok (.val a) ρ1) (h2 : n ρ1 = .ok (.val b) ρ2) (hf : F [.d a, .d b] = .ok w [.d .non, .d .non]) : callM F (consA m (consA n nilA)) ρ = .ok w ρ2 := by
  show ((m ρ).bind _).bind _ = _
  rw [h1]
  show (((n ρ1).bind _).bind _).bind _ = _
  rw [h2]
  show (match F [.d a, .d b] with
      | .ok w outs => .ok w (setOuts [.val a, .val b] outs ρ2)
      | .exc c fs outs => .exc c fs (setOuts [.val a, .val b] outs ρ2)
      | .bad => .bad : Res W) = _
  rw [hf]
  rfl
theorem ev_par {io : List Nat} {i j : Nat} {m1 m2 : M W} (h1 : m1 ρ = .ok w1 ρ1) (h2 : m2 ρ1 = .ok w2 ρ2) (h : (io.contains i || io.contains j) = false) : parM io i j m1 m2 ρ = .ok .nx ((ρ2.set i (some w1)).set j (some w2)) := by
  show (m1 ρ).bind _ = _
  rw [h1]
  show (m2 ρ1).bind _ = _
  rw [h2]
  show (if (io.contains i || io.contains j) = true then _ else _) = _
  rw [if_neg (by rw [h]; decide)]
theorem ev_or {s t : M Bool} {k : Bool} {r : Res Bool} (h : s ρ = .ok k ρ1) (h2 : (if k = true then .ok true ρ1 else t ρ1) = r) : orB s t ρ = r := by
  show (s ρ).bind _ = _
  rw [h]
  exact h2
theorem fn_ret {n : Nat} {sig : List Bool} {body : M Fl} {ws os : List W} (hs : sigOk sig ws = true) (h : body (startR n ws) = .ok (.ret w) ρ) (ho : outsOf ρ 0 ws = some os) : fnM n sig body ws = .ok w os := by
  unfold fnM
  rw [if_pos hs, h]
  show finF ws w ρ = _
  unfold finF
  rw [ho]
theorem ev_tup2 {m n : M W} (h1 : m ρ = .ok w1 ρ1) (h2 : n ρ1 = .ok w2 ρ2) : tupM (consL m (consL n nilL)) ρ = .ok (.d (.tup [w1.data, w2.data])) ρ2 := by
  show ((m ρ).dat _).bind _ = _
  rw [h1]
  show (((n ρ1).dat _).bind _).bind _ = _
  rw [h2]
  rfl
theorem ev_asg {g : FL.D → M Unit} {m : M W} (h1 : m ρ = .ok w ρ1) (h2 : g w.data ρ1 = .ok () ρ2) : asgM g m ρ = .ok .nx ρ2 := by
  show (m ρ).dat _ = _
  rw [h1]
  show (g w.data ρ1).bind _ = _
  rw [h2]
  rfl
theorem ev_for {mi : M (List FL.D)} {g : FL.D → M Unit} {b : M Fl} {ds : List FL.D} {r : Res Fl} (h1 : mi ρ = .ok ds ρ1) (h2 : forM g b ds ρ1 = r) : forS mi g b ρ = r := by
  show (mi ρ).bind _ = _
  rw [h1]
  exact h2
theorem while_yes {t : M Bool} {b : M Fl} {n : Nat} (h1 : t ρ = .ok true ρ1) (h2 : b ρ1 = .ok .nx ρ2) : whileM t b (n + 1) ρ = whileM t b n ρ2 := by
  show (t ρ).bind _ = _
  rw [h1]
  show (b ρ1).loop _ = _
  rw [h2]
  rfl
theorem while_no {t : M Bool} {b : M Fl} {n : Nat} (h1 : t ρ = .ok false ρ1) : whileM t b (n + 1) ρ = .ok .nx ρ1 := by
  show (t ρ).bind _ = _
  rw [h1]
  rfl
/-- a call that hands on one own object ahead of one plain value -/
theorem ev_callO {i : Nat} {n : M A} {P P' : FL.D} (h1 : slotA i ρ = .ok (.ref i) ρ) (hi : ρ[i]? = some (some (.own P))) (h2 : n ρ = .ok (.val b) ρ) (hf : F [.own P, .d b] = .ok w [.own P', .d .non]) :
    callM F (consA (slotA i) (consA n nilA)) ρ = .ok w (ρ.set i (some (.own P'))) := by
  show ((slotA i ρ).bind _).bind _ = _
  rw [h1]
  show (((n ρ).bind _).bind _).bind _ = _
  rw [h2]
  have e : argsOf ρ [.ref i, .val b] = some [.own P, .d b] := by
    show (match (A.ref i).arg ρ, argsOf ρ [.val b] with
      | some w, some ws => some (w :: ws)
      | _, _ => none) = _
    have e1 : (A.ref i).arg ρ = some (.own P) := by
      show (match ρ[i]? with
        | some (some w) => some w
        | _ => none) = _
      rw [hi]
    rw [e1]
    rfl
  show (match argsOf ρ [.ref i, .val b] with
    | some ws => if onceB (refsOf [.ref i, .val b] ws) = true then
        match F ws with
        | .ok w outs => .ok w (setOuts [.ref i, .val b] outs ρ)
        | .exc c fs outs => .exc c fs (setOuts [.ref i, .val b] outs ρ)
        | .bad => .bad
      else .bad
    | none => .bad : Res W) = _
  rw [e]
  show (if onceB (refsOf [.ref i, .val b] [.own P, .d b]) = true then _ else _) = _
  rw [if_pos (by rfl)]
  show (match F [.own P, .d b] with
        | .ok w outs => .ok w (setOuts [.ref i, .val b] outs ρ)
        | .exc c fs outs => .exc c fs (setOuts [.ref i, .val b] outs ρ)
        | .bad => .bad : Res W) = _
  rw [hf]
  rfl
end
/-- statements in a row -/
def seqs : List (M Fl) → M Fl → M Fl
  | [], r => r
  | s :: l, r => seqM s (seqs l r)
theorem seqs_go {r : M Fl} {ρ' : Rho} : ∀ {l : List (M Fl)} {ρ : Rho}, seqs l nextM ρ = .ok .nx ρ' → seqs l r ρ = r ρ'
  | [], ρ, h => by
    have e : Res.ok Fl.nx ρ = Res.ok Fl.nx ρ' := h
    cases e
    rfl
  | s :: l, ρ, h => by
    have h' : (s ρ).flow (seqs l nextM) = .ok .nx ρ' := h
    show (s ρ).flow (seqs l r) = r ρ'
    cases e : s ρ with
    | bad => rw [e] at h'; cases h'
    | exc c fs ρ1 => rw [e] at h'; cases h'
    | ok f ρ1 =>
      rw [e] at h'
      cases f with
      | nx => exact seqs_go (l := l) (ρ := ρ1) h'
      | brk => cases h'
      | cont => cases h'
      | ret w => cases h'
end FL
set_option Elab.async false
set_option linter.all false
set_option maxRecDepth 100000
set_option maxHeartbeats 2000000
namespace FL
open PySem PySem.Spec L2
open PyProof.Rows hiding St
def lamsE : Nat → Expr → List Expr
  | 0, _ => []
  | n + 1, e => match e with
    | .Lambda .. => [e]
    | .Tuple es _ _ => es.flatMap (lamsE n)
    | .List es _ => es.flatMap (lamsE n)
    | .Call f es _ _ => lamsE n f ++ es.flatMap (lamsE n)
    | .Attribute o _ _ => lamsE n o
    | .Subscript o i _ => lamsE n o ++ lamsE n i
    | .BinOp l _ r _ => lamsE n l ++ lamsE n r
    | .UnaryOp _ l _ => lamsE n l
    | .BoolOp _ es _ => es.flatMap (lamsE n)
    | .Compare l _ rs _ => lamsE n l ++ rs.flatMap (lamsE n)
    | .IfExp t l r _ => lamsE n t ++ lamsE n l ++ lamsE n r
    | _ => []
def lamsT : Nat → Stmt → List Expr
  | 0, _ => []
  | n + 1, st => match st with
    | .Expr e _ => lamsE n e
    | .Return (some e) _ => lamsE n e
    | .Assign ts e _ => ts.flatMap (lamsE n) ++ lamsE n e
    | .If t l r _ => lamsE n t ++ l.flatMap (lamsT n) ++ r.flatMap (lamsT n)
    | .While t l r _ => lamsE n t ++ l.flatMap (lamsT n) ++ r.flatMap (lamsT n)
    | .For t i l r _ => lamsE n t ++ lamsE n i ++ l.flatMap (lamsT n) ++ r.flatMap (lamsT n)
    | _ => []
def lamsB (n : Nat) (b : List Stmt) : List Expr := b.flatMap (lamsT n)
def lamPar : Expr → Arguments
  | .Lambda p _ _ _ => p
  | _ => ⟨[], [], none, [], [], none, []⟩
def lamBod : Expr → Expr
  | .Lambda _ b _ _ => b
  | e => e
def lamScp : Expr → Scope
  | .Lambda _ _ s _ => s
  | _ => default
theorem fa_nil {α : Type} {p : α → Prop} : ∀ x ∈ ([] : List α), p x := fun _ h => absurd h (by simp)
theorem fa_cons {α : Type} {p : α → Prop} {a : α} {l : List α} (h : p a) (t : ∀ x ∈ l, p x) : ∀ x ∈ a :: l, p x := fun x hx => by
  rcases List.mem_cons.mp hx with e | e
  · rw [e]; exact h
  · exact t x e
theorem gok_fnL {P : Program} {w : World} {K : PySem.W.Frag} {mg : Str → Option Value} {base : Heap} {x : Str} {f : Addr} {fd : FuncData} {ps : List Str} {F : (D → FR) → FnSem} {sig : List Bool} {j k : Nat} {st : Stmt} {qual nm : Str} (U : Fun K nm qual st f fd) (b : Binds K fd ps []) (G : FnL P w K mg base j f fd ps F) (h : j ≤ k) (e : mg x = some (.ref f)) : GOk P w K mg base k x (.fnL F sig) :=
  ⟨f, fd, ps, e, U.kp, FnX.mono G h, b⟩
theorem look_none {K : PySem.W.Frag} {a : Addr} (h : (K.lookup a).isNone = true) : K.lookup a = none := Option.isNone_iff_eq_none.mp h
/-- a maker of lambdas, read -/
theorem mk_ok {P : Program} {w : World} {K : PySem.W.Frag} {mg : Str → Option Value} {base : Heap} {name qual : Str} {params : Arguments} {body : List Stmt} {scope : Scope} {f cd Pt : Addr} {dV kV doc pm ct oc : Value} {an od : Option Addr} {osl : Array (Option Value)} {N ps : List Str} {sig : List Bool} {k : Nat} {c : Addr → Sc} {m : Addr → M Fl} {gl : List (Str × GE)}
    (lk : K.lookup f = some ⟨oc, od, .func (PySem.W.fnOf name qual params body scope dV kV doc pm an (.ref cd) ct), osl⟩) (hcd : PySem.W.codeIn K (.ref cd) qual = true) (S : FnScope N ps scope) (hsig : sig.length = ps.length) (hN : ∀ a, (c a).N = N) (hsc : ∀ a, (c a).sc = scope) (hio : ∀ a, (c a).io = ioOf 0 sig)
    (hm : ∀ a, rd (c a) body = m a) (hgl : ∀ a x e, (c a).gl.lookup x = some e → GOk P w K mg base k x e) (hcls : ∀ a, ClsOk K mg (c a)) (ha : ∀ a, (c a).act = fun _ => .bad) (hlm : ∀ a, (c a).lm = some ⟨cellsFrom (a + 1) scope.names [], qual ++ ".<locals>." ++ "<lambda>", gl⟩) (hk : KL ≤ k)
    (TB : LamX.TabB base mg cd Pt) (hlg : ∀ x e, gl.lookup x = some e → GOk P w K mg base (KL - 1) x e) :
    FnX P w K mg base (fun t => t = [(Pt, qual ++ ".<locals>." ++ "<lambda>")]) (k + 1) f (PySem.W.fnOf name qual params body scope dV kV doc pm an (.ref cd) ct) ps (fun a _ => fnM N.length sig (m a)) :=
  fn_core (c := fun a _ => c a) (m := fun a _ => m a) lk hcd S hsig (fun a _ => hN a) (fun a _ => hsc a) (fun a _ => hio a) (fun a _ => hm a) (fun a _ => hgl a) (fun a _ => hcls a) (fun a _ => .inl (ha a)) fun a _ fl hT mi e => by
    rw [hlm a] at e
    cases e
    rw [hT]
    exact ⟨hk, rfl, rfl, ⟨cd, Pt, rfl, TB, List.mem_cons_self, fun p hp _ => by rw [List.mem_singleton.mp hp]⟩, hlg⟩
theorem law_endT {P : Program} {w : World} {K : PySem.W.Frag} {mg mb : Str → Option Value} {k : Nat} {fa a cd Pt : Addr} {qn : Str} {fd : FuncData} {x : Str} {F : Addr → FnSem} {s : Shared} {us : List Value} {ns : List Int} {n : Nat}
    (inK : K.In s.heap) (hmg : s.heap.Ns mainGlobals mg) (hmb : s.heap.Ns builtinsNs mb) (hboot : ∀ y : Str, y ≠ "__name__" → mb y = bootBuiltins y) (lim : s.heap.NoLimit) (noG : s.gens = #[])
    (at_ : s.heap.get? a = some { cls := .type "list", data := .seq us.toArray }) (isI : IntsAre us ns) (len : ns.length ≤ n) (hn : n ≤ sizeLine) (room : Room k callerA)
    (tabP : s.heap.get? Pt = some { cls := .none, data := .fields #[] }) (noP : K.lookup Pt = none) (code : PySem.W.CodeHd s.heap cd Pt)
    (hbm : ∃ (bm : Addr) (ob : Obj), mg "__builtins__" = some (.ref bm) ∧ bm ≠ builtinsNs ∧ s.heap.get? bm = some ob ∧ ob.cls = .type "module" ∧ ob.dict = some builtinsNs ∧ ob.data = .plain)
    (FG : ∀ base : Heap, K.In base → base.Ns mainGlobals mg → LamX.TabB base mg cd Pt → FnX P w K mg base (fun t => t = [(Pt, qn)]) k fa fd [x] (fun a _ => F a)) (bind : ∀ (s : Shared) (u : Value), BindsTo s fd ⟨[u], []⟩ [(x, u)])
    (truth : ∀ a, ∃ o, F a [.d (.scr ns)] = .ok (.d (.bl true)) o) :
    codeAny (model P w) callerA (.call (.ref fa) ⟨[.ref a], []⟩) (fun r s' => r = .ok (.ret (.bool true)) ∧ OldK s.heap s'.heap ∧ s'.os = s.os ∧ AllBare s'.gens) s := by
  have vals := vals_ints isI
  have small : ns.length ≤ sizeLine := Nat.le_trans len hn
  have aP : a ≠ Pt := fun z => by
    rw [z, tabP] at at_
    cases at_
  -- what is tracked: the lambdas' table, the script (unless it is one of the module's objects)
  have go : ∀ H : Hp, H Pt = some (.tbl #[]) → (∀ b, b ≠ Pt → H b = none ∨ (b = a ∧ H b = some (.frz { cls := .type "list", data := .seq us.toArray } (.lst (ns.map V.int))))) → (H a ≠ none → K.lookup a = none) → SqL K H a (ns.map V.int) →
      codeAny (model P w) callerA (.call (.ref fa) ⟨[.ref a], []⟩) (fun r s' => r = .ok (.ret (.bool true)) ∧ OldK s.heap s'.heap ∧ s'.os = s.os ∧ AllBare s'.gens) s := fun H hP only noK isL => by
    have hok : HOk P w H s.heap := fun b u hb => by
      by_cases hbP : b = Pt
      · subst hbP
        rw [hP] at hb
        cases hb
        exact tabP
      · rcases only b hbP with z | ⟨z1, z2⟩
        · rw [z] at hb; cases hb
        · rw [z2] at hb
          cases hb
          subst z1
          exact ⟨at_, by rw [List.length_map]; exact small, us, _, vals, at_⟩
    have free : ∀ {b : Addr} {o : Obj}, s.heap.get? b = some o → o ≠ { cls := .type "list", data := .seq us.toArray } → o ≠ { cls := .none, data := .fields #[] } → H b = none := fun {b o} e ne ne2 => by
      by_cases hbP : b = Pt
      · subst hbP
        rw [tabP] at e
        exact absurd (Option.some.inj e).symm ne2
      · rcases only b hbP with z | ⟨z1, _⟩
        · exact z
        · subst z1
          rw [at_] at e
          exact absurd (Option.some.inj e).symm ne
    have kept : ∀ {b : Addr} {m : Str → Option Value}, s.heap.Ns b m → (hidT s.heap H).Ns b m := fun {b m} ⟨o, es, ep, e, d, r⟩ => ⟨o, es, ep, hidT_get e (free e (fun z => by rw [z] at d; cases d) fun z => by rw [z] at d; cases d), d, r⟩
    have inB : K.In (hidT s.heap H) := fun b o e => hidT_get (inK b o e) (by
      by_cases hbP : b = Pt
      · subst hbP
        rw [noP] at e
        cases e
      · rcases only b hbP with z | ⟨z1, z2⟩
        · exact z
        · subst z1
          rw [noK (by rw [z2]; simp)] at e
          cases e)
    have md : Mod K mg (hidT s.heap H) := ⟨inB, kept hmg, ⟨mb, kept hmb, hboot⟩, let ⟨mc, l1, l2⟩ := lim; ⟨mc, kept l1, l2⟩⟩
    have none_in : ∀ {b : Addr}, b ∉ frs ([] : List Env) := fun {b} z => absurd (show b ∈ ([] : List Addr) from z) (by simp)
    have env : Env0 P w K mg (hidT s.heap H) callerA [] s H := ⟨rfl, md, fun b o e => of_hidT e, Nat.le_of_eq (hidT_size _ _), trivial, fun b hb => absurd hb none_in, hok, .of_eq noG⟩
    have tb : LamX.TabB (hidT s.heap H) mg cd Pt := by
      obtain ⟨bm, ob, b1, b2, b3, b4, b5, b6⟩ := hbm
      obtain ⟨og, es, ep, eg, dg, _⟩ := hmg
      refine ⟨?_, ⟨bm, ob, b1, b2, fun z => ?_, fun z => ?_, hidT_get b3 (free b3 (fun z => by rw [z] at b6; cases b6) fun z => by rw [z] at b6; cases b6), b4, b5, b6⟩, fun z => ?_⟩
      · obtain ⟨o, vs, file, tf, flags, tg, inF, text, tt, e1, r1, r2, r⟩ := code
        refine ⟨o, vs, file, tf, flags, tg, inF, text, tt, hidT_get e1 (free e1 (fun z => ?_) fun z => ?_), r1, r2, r⟩
        · rw [z] at r2; cases r2
        · rw [z] at r1; cases r1
      · rw [z, eg] at b3
        cases b3
        rw [dg] at b6
        cases b6
      · rw [z, tabP] at b3
        cases b3
        cases b6
      · rw [z, tabP] at eg
        cases eg
        cases dg
    obtain ⟨outs, eF⟩ := truth s.heap.objs.size
    let G : Hp := fun b => if b = Pt then none else H b
    have gH : ∀ {b : Addr} {o : HO}, G b = some o → b ≠ Pt ∧ H b = some o := fun {b o} e => by
      by_cases hb : b = Pt
      · rw [show G b = none from if_pos hb] at e; cases e
      · rw [show G b = H b from if_neg hb] at e; exact ⟨hb, e⟩
    have isG : SqL K G a (ns.map V.int) := by
      have ga : G a = H a := if_neg aP
      rcases isL with (q | ⟨o, q⟩) | q
      · exact .inl (.inl (ga.trans q))
      · exact .inl (.inr ⟨o, ga.trans q⟩)
      · exact .inr q
    have ent : EntA K mg ⟨fun _ => none, [(Pt, qn)]⟩ [.ref a] [.d (.scr ns)] H G := by
      refine ⟨rfl, fun b o e => (gH e).2, fun i w hw => ?_, fun i j y z v h1 => ?_, SubH.nothing, fun p hp => ?_, fun b o hb => ?_⟩
      · cases i with
        | zero =>
          have e1 : W.d (.scr ns) = w := by simpa using hw
          subst e1
          exact ⟨.ref a, rfl, a, rfl, isG⟩
        | succ i => simp at hw
      · cases i with
        | zero => simp at h1
        | succ i => simp at h1
      · rw [List.mem_singleton.mp hp]
        exact LamX.TabS.nil hP
      · obtain ⟨hbP, hb'⟩ := gH hb
        rcases only b hbP with z | ⟨_, z⟩
        · rw [z] at hb'; cases hb'
        · rw [z] at hb'; cases hb'; exact fun _ z => nomatch z
    have sp : spF K mg ⟨fun _ => none, [(Pt, qn)]⟩ (F s.heap.objs.size) [.ref a] H (fun v _ => v = .bl true) fun _ _ _ => False := ⟨_, G, ent, by
      rw [eF]
      exact fun v H' G' _ rv _ => rv⟩
    refine codeAny_mono ((FG _ inB (kept hmg) tb).run callerA [] s H ⟨[.ref a], []⟩ [.ref a] [.ref a] _ _ _ (fun _ => .bad) rfl room rfl lamVs_bad env (bind s (.ref a)) (.cons rfl .nil) sp) fun r s' q => ?_
    match r, q with
    | .error e, q => exact let ⟨_, _, _, _, _, _, _, _, _, _, _, _, z⟩ := q; False.elim z
    | .ok .next, q => exact False.elim q
    | .ok .brk, q => exact False.elim q
    | .ok .cont, q => exact False.elim q
    | .ok (.ret u), q =>
      obtain ⟨v, H', os, bare, un, hok', rv, ev⟩ := q
      have ev' : v = .bl true := ev
      subst ev'
      obtain rfl : u = Value.bool true := rv
      have same : ∀ b o, b ≠ Pt → s.heap.get? b = some o → s'.heap.get? b = some o := fun b o hbP e => by
        rcases only b hbP with z | ⟨z1, z2⟩
        · exact un.keep b o e z none_in (by simp)
        · subst z1
          obtain ⟨e2, _⟩ := hok' b _ (un.frzs b _ _ z2)
          rw [at_] at e
          cases e
          exact e2
      obtain ⟨more, grown⟩ := un.tbls Pt #[] hP
      have grown' : s'.heap.get? Pt = some { cls := .none, data := .fields (#[] ++ more) } := hok' Pt _ grown
      refine ⟨rfl, ⟨fun b o e => ?_, fun b o e => ?_⟩, os, bare⟩
      · by_cases hb : b = Pt
        · subst hb
          rw [tabP] at e
          cases e
          exact .inr (.inl ⟨(code.tab tabP).isCodeTable, rfl, #[], more, rfl, grown'⟩)
        · exact .inl (same b o hb e)
      · by_cases hb : b = Pt
        · subst hb; exact ⟨_, grown'⟩
        · exact ⟨o, same b o hb e⟩
  cases hk : K.lookup a with
  | some o =>
    have e := inK a o hk
    rw [at_] at e
    cases e
    exact go (fun b => if b = Pt then some (.tbl #[]) else none) (if_pos rfl) (fun b hb => .inl (if_neg hb)) (fun z => absurd (if_neg aP) z) (.inr ⟨_, us.toArray, _, hk, rfl, rfl, rfl, by rw [List.size_toArray, isI.length]; exact small, by simpa using vals⟩)
  | none =>
    refine go (fun b => if b = Pt then some (.tbl #[]) else if b = a then some (.frz { cls := .type "list", data := .seq us.toArray } (.lst (ns.map V.int))) else none) (if_pos rfl) (fun b hbP => ?_) (fun _ => hk) (.inl (.inr ⟨_, (if_neg aP).trans (if_pos rfl)⟩))
    by_cases hb : b = a
    · exact .inr ⟨hb, (if_neg hbP).trans (if_pos hb)⟩
    · exact .inl ((if_neg hbP).trans (if_neg hb))
theorem walk_endT {l : PySem.W.OpenLaw} {n k : Nat} {q : Program} {loose : List Str} {XP : (Str → Option Value) → Heap → Prop} {YP : World → Heap → Prop} {d : DefRec} {K : Params → PySem.W.Frag} {x : Str} {F : Addr → FnSem}
    (hn : l.most = some n) (hn2 : n ≤ sizeLine) (hdf : d.params.defaults = []) (hr : Room k callerA) (hrec : ((recsOf q).any fun e => e.name == d.name) = true) (hY : ∀ (w : World) (h : Heap), YP w h → (K w.params).In h)
    (FF : ∀ (w : World) (mg : Str → Option Value) (fa : Addr) (h : Heap), (K w.params).In h → h.Ns mainGlobals mg → mg d.name = some (.ref fa) →
      ∃ (fd : FuncData) (cd Pt : Addr) (qn : Str) (o oc : Obj) (vs : Array Value), (K w.params).lookup fa = some o ∧ o.data = .func fd ∧ fd.code = .ref cd ∧ (K w.params).lookup cd = some oc ∧ oc.data = .fields vs ∧ vs[11]? = some (.ref Pt) ∧ (K w.params).lookup Pt = none ∧
        (∀ (s : Shared) (u : Value), BindsTo s fd ⟨[u], []⟩ [(x, u)]) ∧ ∀ base : Heap, (K w.params).In base → base.Ns mainGlobals mg → LamX.TabB base mg cd Pt → FnX l.prog w (K w.params) mg base (fun t => t = [(Pt, qn)]) k fa fd [x] (fun a _ => F a))
    (truth : ∀ (a : Addr) (ns : List Int), ns.length ≤ n → (∀ z ∈ ns, Builtin.Int.intBits z ≤ 1048576) → ∃ o, F a [.d (.scr ns)] = .ok (.d (.bl true)) o) :
    PySem.W.WalkO q loose XP YP l.row.toRowW d [] (fun f vs => PySem.call f vs) := by
  refine Att.attach_callB hn hdf fun w s₀ s₁ mg mb fa o0 pm cdv doc a vs ns G Y ho hd hcd hmg hobj hints hlen hbits hg => ?_
  have inK := hY w _ Y
  obtain ⟨fd, cd, Pt, qn, o, oc, cv, k1, k2, k3, k4, k5, k6, noP, hb, hF⟩ := FF w mg fa _ inK G.T.g hmg
  obtain ⟨dl, mem, same⟩ := List.any_eq_true.mp hrec
  obtain ⟨fa', o', fd', c', P', g1, g2, g3, g4, isC, isT⟩ := G.T.tab dl mem
  rw [show dl.name = d.name from eq_of_beq same, hmg] at g1
  cases g1
  rw [inK _ _ k1] at g2
  cases g2
  rw [k2] at g3
  cases g3
  rw [k3] at g4
  cases g4
  obtain ⟨⟨oc', cv', h1, _, h3, h4⟩, tabP⟩ := id isT
  rw [inK _ _ k4] at h1
  cases h1
  rw [k5] at h3
  cases h3
  rw [k6] at h4
  cases h4
  exact law_endT inK G.T.g G.T.b G.T.builtins G.T.nolimit hg hobj hints hlen hn2 hr tabP noP (PySem.W.CodeHd.of isC isT) G.T.bmain hF hb fun a => truth a ns hlen hbits
end FL
set_option Elab.async false
set_option linter.all false
set_option maxRecDepth 100000
set_option maxHeartbeats 0
namespace FL
namespace K19
open PySem PySem.Spec L2
open PyProof.Rows hiding St
abbrev recN : Nat := 8
def ctop (i j : Nat) : Stmt := match PySem.Challenge.pw_ownhalves_k19_ring_rows.main.body.getD i (.Pass ⟨0, 0, 0, 0⟩) with | .ClassDef _ _ _ b _ _ _ _ _ _ _ => b.getD j (.Pass ⟨0, 0, 0, 0⟩) | s => s
def top (i : Nat) : Stmt := PySem.Challenge.pw_ownhalves_k19_ring_rows.main.body.getD i (.Pass ⟨0, 0, 0, 0⟩)
def clsTab : List (Str × List Str) := [("BadNumber", ["BadNumber", "HalfError"]), ("BadText", ["BadText", "HalfError"]), ("BadRow", ["BadRow", "HalfError"]), ("Unlike", ["Unlike", "HalfError"]), ("TooMany", ["TooMany", "HalfError"])]
def c_is_whole : Sc := { N := ["value"], sc := defScope (top 9), io := [], all := true, gl := [("isinstance", .bB "isinstance"), ("int", .bT "int"), ("bool", .bT "bool")], lim := 1000000 }
def m_is_whole : M Fl := (seqM (retM (andM (bcM isiW (consA (slotA 0) (consA (datA (constM (.ty "int"))) nilA))) (notM (datA (bcM isiW (consA (slotA 0) (consA (datA (constM (.ty "bool"))) nilA))))))) nextM)
def F_is_whole : FnSem := fnM 1 [false] m_is_whole
theorem e_is_whole : rd c_is_whole (defBody (top 9)) = m_is_whole := by kernel_rfl
theorem s_is_whole : FnScope ["value"] ["value"] (defScope (top 9)) := ⟨rfl, rfl, rfl, by decide +kernel, rfl, by decide +kernel, by decide +kernel⟩
def m_in_tuples (F_r : FnSem) : M Fl := (seqM (ifS (notB (testM (datA (bcM isiW (consA (slotA 0) (consA (datA (tupM (consL (constM (.ty "tuple")) (consL (constM (.ty "list")) nilL)))) nilA)))))) (seqM (retS [] 0) nextM) nextM) (seqM (retM (bcM tupleW (consA (datA (lcM (iterM (slotM 0)) (nameG [0] 1) yesM (callM F_r (consA (datA (slotM 1)) nilA)) [1])) nilA))) nextM))
def c_in_tuples (F_r : FnSem) : Sc := { N := ["value", "item"], sc := defScope (top 10), io := [], all := true, gl := [("tuple", .bT "tuple"), ("in_tuples", .fn F_r [false]), ("isinstance", .bB "isinstance"), ("list", .bT "list")], lim := 1000000 }
def F_in_tuples : Nat → FnSem
  | 0 => fun _ => .bad
  | n + 1 => fnM 2 [false] (m_in_tuples (F_in_tuples n))
theorem e_in_tuples (F_r : FnSem) : rd (c_in_tuples F_r) (defBody (top 10)) = m_in_tuples F_r := by kernel_rfl
theorem s_in_tuples : FnScope ["value", "item"] ["value"] (defScope (top 10)) := ⟨rfl, rfl, rfl, by decide +kernel, rfl, by decide +kernel, by decide +kernel⟩
def c_need_between : Sc := { N := ["what", "number", "low", "high"], sc := defScope (top 11), io := [], all := true, gl := [("BadNumber", .ex "BadNumber" ["what", "number"]), ("is_whole", .fn F_is_whole [false])], lim := 1000000 }
def m_need_between : M Fl := (seqM (ifS (notB (testM (datA (callM F_is_whole (consA (datA (slotM 1)) nilA))))) (seqM (raiseM "BadNumber" ["what", "number"] (consL (slotM 0) (consL (slotM 1) nilL))) nextM) nextM) (seqM (ifS (orB (andB (boolM (cmpM .IsNot (slotA 2) (datA (constM .non)))) (boolM (cmpM .Lt (slotA 1) (slotA 2)))) (andB (boolM (cmpM .IsNot (slotA 3) (datA (constM .non)))) (boolM (cmpM .Gt (slotA 1) (slotA 3))))) (seqM (raiseM "BadNumber" ["what", "number"] (consL (slotM 0) (consL (slotM 1) nilL))) nextM) nextM) nextM))
def F_need_between : FnSem := fnM 4 [false, false, false, false] m_need_between
theorem e_need_between : rd c_need_between (defBody (top 11)) = m_need_between := by kernel_rfl
theorem s_need_between : FnScope ["what", "number", "low", "high"] ["what", "number", "low", "high"] (defScope (top 11)) := ⟨rfl, rfl, rfl, by decide +kernel, rfl, by decide +kernel, by decide +kernel⟩
def c_is_pair : Sc := { N := ["value"], sc := defScope (top 13), io := [], all := true, gl := [("is_whole", .fn F_is_whole [false]), ("isinstance", .bB "isinstance"), ("list", .bT "list"), ("tuple", .bT "tuple"), ("len", .bB "len")], lim := 1000000 }
def m_is_pair : M Fl := (seqM (ifS (orB (notB (testM (datA (bcM isiW (consA (slotA 0) (consA (datA (tupM (consL (constM (.ty "tuple")) (consL (constM (.ty "list")) nilL)))) nilA)))))) (boolM (cmpM .NotEq (datA (bcM lenW (consA (slotA 0) nilA))) (datA (constM (.int (2))))))) (seqM (retM (constM (.bl false))) nextM) nextM) (seqM (retM (andM (callM F_is_whole (consA (datA (ixM (slotA 0) (datA (constM (.int (0)))))) nilA)) (andM (callM F_is_whole (consA (datA (ixM (slotA 0) (datA (constM (.int (1)))))) nilA)) (cmpM .Gt (datA (ixM (slotA 0) (datA (constM (.int (1)))))) (datA (constM (.int (0)))))))) nextM))
def F_is_pair : FnSem := fnM 1 [false] m_is_pair
theorem e_is_pair : rd c_is_pair (defBody (top 13)) = m_is_pair := by kernel_rfl
theorem s_is_pair : FnScope ["value"] ["value"] (defScope (top 13)) := ⟨rfl, rfl, rfl, by decide +kernel, rfl, by decide +kernel, by decide +kernel⟩
def c_is_ratio : Sc := { N := ["value"], sc := defScope (top 14), io := [], all := true, gl := [("is_whole", .fn F_is_whole [false]), ("isinstance", .bB "isinstance"), ("tuple", .bT "tuple"), ("is_pair", .fn F_is_pair [false])], lim := 1000000 }
def m_is_ratio : M Fl := (seqM (retM (orM (callM F_is_whole (consA (datA (slotM 0)) nilA)) (andM (bcM isiW (consA (slotA 0) (consA (datA (constM (.ty "tuple"))) nilA))) (callM F_is_pair (consA (datA (slotM 0)) nilA))))) nextM)
def F_is_ratio : FnSem := fnM 1 [false] m_is_ratio
theorem e_is_ratio : rd c_is_ratio (defBody (top 14)) = m_is_ratio := by kernel_rfl
theorem s_is_ratio : FnScope ["value"] ["value"] (defScope (top 14)) := ⟨rfl, rfl, rfl, by decide +kernel, rfl, by decide +kernel, by decide +kernel⟩
def c_lowest : Sc := { N := ["top", "bottom", "by"], sc := defScope (top 15), io := [], all := true, gl := [("gcd", .gF "math.gcd")], lim := 1000000 }
def m_lowest : M Fl := (seqM (setM [] 2 (ifM (boolM (cmpM .Gt (slotA 1) (datA (constM (.int (0)))))) (bcM gcdW (consA (slotA 0) (consA (slotA 1) nilA))) (negM (datA (bcM gcdW (consA (slotA 0) (consA (slotA 1) nilA))))))) (seqM (retM (tupM (consL (binM .FloorDiv (slotA 0) (slotA 2)) (consL (binM .FloorDiv (slotA 1) (slotA 2)) nilL)))) nextM))
def F_lowest : FnSem := fnM 3 [false, false] m_lowest
theorem e_lowest : rd c_lowest (defBody (top 15)) = m_lowest := by kernel_rfl
theorem s_lowest : FnScope ["top", "bottom", "by"] ["top", "bottom"] (defScope (top 15)) := ⟨rfl, rfl, rfl, by decide +kernel, rfl, by decide +kernel, by decide +kernel⟩
def c_told : Sc := { N := ["ratio"], sc := defScope (top 16), io := [], all := true, gl := [("lowest", .fn F_lowest [false, false]), ("is_pair", .fn F_is_pair [false]), ("BadRow", .ex "BadRow" ["row"]), ("is_whole", .fn F_is_whole [false])], lim := 1000000 }
def m_told : M Fl := (seqM (ifS (testM (datA (callM F_is_whole (consA (datA (slotM 0)) nilA)))) (seqM (retM (tupM (consL (slotM 0) (consL (constM (.int (1))) nilL)))) nextM) nextM) (seqM (ifS (notB (testM (datA (callM F_is_pair (consA (datA (slotM 0)) nilA))))) (seqM (raiseM "BadRow" ["row"] (consL (slotM 0) nilL)) nextM) nextM) (seqM (retM (callM F_lowest (consA (datA (ixM (slotA 0) (datA (constM (.int (0)))))) (consA (datA (ixM (slotA 0) (datA (constM (.int (1)))))) nilA)))) nextM)))
def F_told : FnSem := fnM 1 [false] m_told
theorem e_told : rd c_told (defBody (top 16)) = m_told := by kernel_rfl
theorem s_told : FnScope ["ratio"] ["ratio"] (defScope (top 16)) := ⟨rfl, rfl, rfl, by decide +kernel, rfl, by decide +kernel, by decide +kernel⟩
def c_summed : Sc := { N := ["one", "other"], sc := defScope (top 17), io := [], all := true, gl := [("lowest", .fn F_lowest [false, false])], lim := 1000000 }
def m_summed : M Fl := (seqM (retM (callM F_lowest (consA (datA (binM .Add (datA (binM .Mult (datA (ixM (slotA 0) (datA (constM (.int (0)))))) (datA (ixM (slotA 1) (datA (constM (.int (1)))))))) (datA (binM .Mult (datA (ixM (slotA 1) (datA (constM (.int (0)))))) (datA (ixM (slotA 0) (datA (constM (.int (1)))))))))) (consA (datA (binM .Mult (datA (ixM (slotA 0) (datA (constM (.int (1)))))) (datA (ixM (slotA 1) (datA (constM (.int (1)))))))) nilA)))) nextM)
def F_summed : FnSem := fnM 2 [false, false] m_summed
theorem e_summed : rd c_summed (defBody (top 17)) = m_summed := by kernel_rfl
theorem s_summed : FnScope ["one", "other"] ["one", "other"] (defScope (top 17)) := ⟨rfl, rfl, rfl, by decide +kernel, rfl, by decide +kernel, by decide +kernel⟩
def c_lessened : Sc := { N := ["one", "other"], sc := defScope (top 18), io := [], all := true, gl := [("lowest", .fn F_lowest [false, false])], lim := 1000000 }
def m_lessened : M Fl := (seqM (retM (callM F_lowest (consA (datA (binM .Sub (datA (binM .Mult (datA (ixM (slotA 0) (datA (constM (.int (0)))))) (datA (ixM (slotA 1) (datA (constM (.int (1)))))))) (datA (binM .Mult (datA (ixM (slotA 1) (datA (constM (.int (0)))))) (datA (ixM (slotA 0) (datA (constM (.int (1)))))))))) (consA (datA (binM .Mult (datA (ixM (slotA 0) (datA (constM (.int (1)))))) (datA (ixM (slotA 1) (datA (constM (.int (1)))))))) nilA)))) nextM)
def F_lessened : FnSem := fnM 2 [false, false] m_lessened
theorem e_lessened : rd c_lessened (defBody (top 18)) = m_lessened := by kernel_rfl
theorem s_lessened : FnScope ["one", "other"] ["one", "other"] (defScope (top 18)) := ⟨rfl, rfl, rfl, by decide +kernel, rfl, by decide +kernel, by decide +kernel⟩
def c_scaled : Sc := { N := ["one", "other"], sc := defScope (top 19), io := [], all := true, gl := [("lowest", .fn F_lowest [false, false])], lim := 1000000 }
def m_scaled : M Fl := (seqM (retM (callM F_lowest (consA (datA (binM .Mult (datA (ixM (slotA 0) (datA (constM (.int (0)))))) (datA (ixM (slotA 1) (datA (constM (.int (0)))))))) (consA (datA (binM .Mult (datA (ixM (slotA 0) (datA (constM (.int (1)))))) (datA (ixM (slotA 1) (datA (constM (.int (1)))))))) nilA)))) nextM)
def F_scaled : FnSem := fnM 2 [false, false] m_scaled
theorem e_scaled : rd c_scaled (defBody (top 19)) = m_scaled := by kernel_rfl
theorem s_scaled : FnScope ["one", "other"] ["one", "other"] (defScope (top 19)) := ⟨rfl, rfl, rfl, by decide +kernel, rfl, by decide +kernel, by decide +kernel⟩
def c_parted : Sc := { N := ["one", "other"], sc := defScope (top 20), io := [], all := true, gl := [("lowest", .fn F_lowest [false, false])], lim := 1000000 }
def m_parted : M Fl := (seqM (retM (callM F_lowest (consA (datA (binM .Mult (datA (ixM (slotA 0) (datA (constM (.int (0)))))) (datA (ixM (slotA 1) (datA (constM (.int (1)))))))) (consA (datA (binM .Mult (datA (ixM (slotA 0) (datA (constM (.int (1)))))) (datA (ixM (slotA 1) (datA (constM (.int (0)))))))) nilA)))) nextM)
def F_parted : FnSem := fnM 2 [false, false] m_parted
theorem e_parted : rd c_parted (defBody (top 20)) = m_parted := by kernel_rfl
theorem s_parted : FnScope ["one", "other"] ["one", "other"] (defScope (top 20)) := ⟨rfl, rfl, rfl, by decide +kernel, rfl, by decide +kernel, by decide +kernel⟩
def c_trimmed : Sc := { N := ["row", "out"], sc := defScope (top 24), io := [], all := true, gl := [("tuple", .bT "tuple"), ("len", .bB "len"), ("list", .bT "list")], lim := 1000000 }
def m_trimmed : M Fl := (seqM (setM [] 1 (bcM listW (consA (slotA 0) nilA))) (seqM (whileM (andB (boolM (cmpM .Gt (datA (bcM lenW (consA (slotA 1) nilA))) (datA (constM (.int (0)))))) (boolM (cmpM .Eq (datA (ixM (datA (ixM (slotA 1) (datA (negM (datA (constM (.int (1)))))))) (datA (constM (.int (0)))))) (datA (constM (.int (0))))))) (seqM (dropM (popM 1)) nextM) 1000000) (seqM (retM (bcM tupleW (consA (slotA 1) nilA))) nextM)))
def F_trimmed : FnSem := fnM 2 [false] m_trimmed
theorem e_trimmed : rd c_trimmed (defBody (top 24)) = m_trimmed := by kernel_rfl
theorem s_trimmed : FnScope ["row", "out"] ["row"] (defScope (top 24)) := ⟨rfl, rfl, rfl, by decide +kernel, rfl, by decide +kernel, by decide +kernel⟩
def c_row_product__0 : Sc := { N := ["one", "other", "out", "i", "item", "j", "by"], sc := defScope (top 25), io := [], all := true, gl := [("trimmed", .fn F_trimmed [false]), ("enumerate", .bT "enumerate"), ("summed", .fn F_summed [false, false]), ("scaled", .fn F_scaled [false, false]), ("NONE", .con (.tup [(.int (0)), (.int (1))])), ("len", .bB "len")], lim := 1000000 }
def m_row_product__0 : M Fl := (seqM (ifS (orB (boolM (cmpM .Eq (datA (bcM lenW (consA (slotA 0) nilA))) (datA (constM (.int (0)))))) (boolM (cmpM .Eq (datA (bcM lenW (consA (slotA 1) nilA))) (datA (constM (.int (0))))))) (seqM (retM (tupM nilL)) nextM) nextM) (seqM (setM [] 2 (binM .Mult (datA (lstM (consL (constM (.tup [(.int (0)), (.int (1))])) nilL))) (datA (binM .Sub (datA (binM .Add (datA (bcM lenW (consA (slotA 0) nilA))) (datA (bcM lenW (consA (slotA 1) nilA))))) (datA (constM (.int (1)))))))) (seqM (forS (iterL enumD (consL (slotM 0) nilL)) (tupG 2 (consG (nameG [] 3) (consG (nameG [] 4) nilG))) (seqM (forS (iterL enumD (consL (slotM 1) nilL)) (tupG 2 (consG (nameG [] 5) (consG (nameG [] 6) nilG))) (seqM (setSubM 2 (callM F_summed (consA (datA (ixM (slotA 2) (datA (binM .Add (slotA 3) (slotA 5))))) (consA (datA (callM F_scaled (consA (datA (slotM 4)) (consA (datA (slotM 6)) nilA)))) nilA))) (datA (binM .Add (slotA 3) (slotA 5)))) nextM)) nextM)) (seqM (retM (callM F_trimmed (consA (datA (slotM 2)) nilA))) nextM))))
def F_row_product__0 : FnSem := fnM 7 [false, false] m_row_product__0
theorem e_row_product__0 : rd c_row_product__0 (defBody (top 25)) = m_row_product__0 := by kernel_rfl
theorem s_row_product__0 : FnScope ["one", "other", "out", "i", "item", "j", "by"] ["one", "other"] (defScope (top 25)) := ⟨rfl, rfl, rfl, by decide +kernel, rfl, by decide +kernel, by decide +kernel⟩
def c_row_passed : Sc := { N := ["row", "made", "item"], sc := defScope (top 28), io := [], all := true, gl := [("trimmed", .fn F_trimmed [false]), ("told", .fn F_told [false]), ("isinstance", .bB "isinstance"), ("tuple", .bT "tuple"), ("all", .bB "all"), ("is_ratio", .fn F_is_ratio [false]), ("BadRow", .ex "BadRow" ["row"]), ("in_tuples", .fn (F_in_tuples recN) [false])], lim := 1000000 }
def m_row_passed : M Fl := (seqM (setM [] 1 (callM (F_in_tuples recN) (consA (datA (slotM 0)) nilA))) (seqM (ifS (orB (notB (testM (datA (bcM isiW (consA (slotA 1) (consA (datA (constM (.ty "tuple"))) nilA)))))) (notB (testM (datA (bcM allW (consA (datA (lcM (iterM (slotM 1)) (nameG [0, 1] 2) yesM (callM F_is_ratio (consA (datA (slotM 2)) nilA)) [2])) nilA)))))) (seqM (raiseM "BadRow" ["row"] (consL (slotM 0) nilL)) nextM) nextM) (seqM (retM (callM F_trimmed (consA (datA (lcM (iterM (slotM 1)) (nameG [0, 1] 2) yesM (callM F_told (consA (datA (slotM 2)) nilA)) [2])) nilA))) nextM)))
def F_row_passed : FnSem := fnM 3 [false] m_row_passed
theorem e_row_passed : rd c_row_passed (defBody (top 28)) = m_row_passed := by kernel_rfl
theorem s_row_passed : FnScope ["row", "made", "item"] ["row"] (defScope (top 28)) := ⟨rfl, rfl, rfl, by decide +kernel, rfl, by decide +kernel, by decide +kernel⟩
def c_ratio_passed : Sc := { N := ["ratio"], sc := defScope (top 29), io := [], all := true, gl := [("told", .fn F_told [false]), ("BadRow", .ex "BadRow" ["row"])], lim := 1000000, cls := clsTab }
def m_ratio_passed : M Fl := (seqM (tryM (subC c_ratio_passed) (seqM (retM (callM F_told (consA (datA (slotM 0)) nilA))) nextM) [⟨"BadRow", none⟩]) nextM)
def F_ratio_passed : FnSem := fnM 1 [false] m_ratio_passed
theorem e_ratio_passed : rd c_ratio_passed (defBody (top 29)) = m_ratio_passed := by kernel_rfl
theorem s_ratio_passed : FnScope ["ratio"] ["ratio"] (defScope (top 29)) := ⟨rfl, rfl, rfl, by decide +kernel, rfl, by decide +kernel, by decide +kernel⟩
def c_stretched_by : Sc := { N := ["row", "many", "out", "item"], sc := defScope (top 30), io := [], all := true, gl := [("trimmed", .fn F_trimmed [false]), ("NONE", .con (.tup [(.int (0)), (.int (1))]))], lim := 1000000 }
def m_stretched_by : M Fl := (seqM (setM [] 2 (lstM nilL)) (seqM (forS (iterM (slotM 0)) (nameG [] 3) (seqM (setM [] 2 (binM .Add (datA (binM .Add (slotA 2) (datA (lstM (consL (slotM 3) nilL))))) (datA (binM .Mult (datA (lstM (consL (constM (.tup [(.int (0)), (.int (1))])) nilL))) (datA (binM .Sub (slotA 1) (datA (constM (.int (1)))))))))) nextM)) (seqM (retM (callM F_trimmed (consA (datA (slotM 2)) nilA))) nextM)))
def F_stretched_by : FnSem := fnM 4 [false, false] m_stretched_by
theorem e_stretched_by : rd c_stretched_by (defBody (top 30)) = m_stretched_by := by kernel_rfl
theorem s_stretched_by : FnScope ["row", "many", "out", "item"] ["row", "many"] (defScope (top 30)) := ⟨rfl, rfl, rfl, by decide +kernel, rfl, by decide +kernel, by decide +kernel⟩
def c_at_by : Sc := { N := ["row", "ratio", "out", "item"], sc := defScope (top 31), io := [], all := true, gl := [("summed", .fn F_summed [false, false]), ("scaled", .fn F_scaled [false, false]), ("NONE", .con (.tup [(.int (0)), (.int (1))]))], lim := 1000000 }
def m_at_by : M Fl := (seqM (setM [] 2 (constM (.tup [(.int (0)), (.int (1))]))) (seqM (forS (iterM (slSM (slotA 0) noPart noPart (partM (negM (datA (constM (.int (1)))))))) (nameG [] 3) (seqM (setM [] 2 (callM F_summed (consA (datA (callM F_scaled (consA (datA (slotM 2)) (consA (datA (slotM 1)) nilA)))) (consA (datA (slotM 3)) nilA)))) nextM)) (seqM (retS [] 2) nextM)))
def F_at_by : FnSem := fnM 4 [false, false] m_at_by
theorem e_at_by : rd c_at_by (defBody (top 31)) = m_at_by := by kernel_rfl
theorem s_at_by : FnScope ["row", "ratio", "out", "item"] ["row", "ratio"] (defScope (top 31)) := ⟨rfl, rfl, rfl, by decide +kernel, rfl, by decide +kernel, by decide +kernel⟩
def c_row_product : Sc := { N := ["one", "other", "first", "second"], sc := defScope (top 32), io := [], all := true, gl := [("row_product_maskrows", .fn F_row_product__0 [false, false]), ("row_passed", .fn F_row_passed [false])], lim := 1000000 }
def m_row_product : M Fl := (seqM (parM [] 2 3 (callM F_row_passed (consA (datA (slotM 0)) nilA)) (callM F_row_passed (consA (datA (slotM 1)) nilA))) (seqM (retM (callM F_row_product__0 (consA (datA (slotM 2)) (consA (datA (slotM 3)) nilA)))) nextM))
def F_row_product : FnSem := fnM 4 [false, false] m_row_product
theorem e_row_product : rd c_row_product (defBody (top 32)) = m_row_product := by kernel_rfl
theorem s_row_product : FnScope ["one", "other", "first", "second"] ["one", "other"] (defScope (top 32)) := ⟨rfl, rfl, rfl, by decide +kernel, rfl, by decide +kernel, by decide +kernel⟩
def c_row_at : Sc := { N := ["row", "ratio", "made"], sc := defScope (top 34), io := [], all := true, gl := [("at_by", .fn F_at_by [false, false]), ("ratio_passed", .fn F_ratio_passed [false]), ("row_passed", .fn F_row_passed [false])], lim := 1000000 }
def m_row_at : M Fl := (seqM (setM [] 2 (callM F_row_passed (consA (datA (slotM 0)) nilA))) (seqM (retM (callM F_at_by (consA (datA (slotM 2)) (consA (datA (callM F_ratio_passed (consA (datA (slotM 1)) nilA))) nilA)))) nextM))
def F_row_at : FnSem := fnM 3 [false, false] m_row_at
theorem e_row_at : rd c_row_at (defBody (top 34)) = m_row_at := by kernel_rfl
theorem s_row_at : FnScope ["row", "ratio", "made"] ["row", "ratio"] (defScope (top 34)) := ⟨rfl, rfl, rfl, by decide +kernel, rfl, by decide +kernel, by decide +kernel⟩
def c_back_row : Sc := { N := ["row"], sc := defScope (top 35), io := [], all := true, gl := [("trimmed", .fn F_trimmed [false]), ("row_passed", .fn F_row_passed [false])], lim := 1000000 }
def m_back_row : M Fl := (seqM (retM (callM F_trimmed (consA (datA (slSM (datA (callM F_row_passed (consA (datA (slotM 0)) nilA))) noPart noPart (partM (negM (datA (constM (.int (1)))))))) nilA))) nextM)
def F_back_row : FnSem := fnM 1 [false] m_back_row
theorem e_back_row : rd c_back_row (defBody (top 35)) = m_back_row := by kernel_rfl
theorem s_back_row : FnScope ["row"] ["row"] (defScope (top 35)) := ⟨rfl, rfl, rfl, by decide +kernel, rfl, by decide +kernel, by decide +kernel⟩
def c_shared_by : Sc := { N := ["row", "by", "rest", "out", "lead", "many", "k", "item"], sc := defScope (top 37), io := [], all := true, gl := [("tuple", .bT "tuple"), ("trimmed", .fn F_trimmed [false]), ("len", .bB "len"), ("list", .bT "list"), ("enumerate", .bT "enumerate"), ("lessened", .fn F_lessened [false, false]), ("scaled", .fn F_scaled [false, false]), ("parted", .fn F_parted [false, false]), ("NONE", .con (.tup [(.int (0)), (.int (1))])), ("max", .bB "max")], lim := 1000000 }
def m_shared_by : M Fl := (seqM (parM [] 2 3 (bcM listW (consA (slotA 0) nilA)) (binM .Mult (datA (lstM (consL (constM (.tup [(.int (0)), (.int (1))])) nilL))) (datA (bcM max2W (consA (datA (constM (.int (0)))) (consA (datA (binM .Add (datA (binM .Sub (datA (bcM lenW (consA (slotA 0) nilA))) (datA (bcM lenW (consA (slotA 1) nilA))))) (datA (constM (.int (1)))))) nilA)))))) (seqM (whileM (boolM (cmpM .GtE (datA (bcM lenW (consA (slotA 2) nilA))) (datA (bcM lenW (consA (slotA 1) nilA))))) (seqM (parM [] 4 5 (binM .Sub (datA (bcM lenW (consA (slotA 2) nilA))) (datA (bcM lenW (consA (slotA 1) nilA)))) (callM F_parted (consA (datA (ixM (slotA 2) (datA (negM (datA (constM (.int (1)))))))) (consA (datA (ixM (slotA 1) (datA (negM (datA (constM (.int (1)))))))) nilA)))) (seqM (setSubM 3 (slotM 5) (slotA 4)) (seqM (forS (iterL enumD (consL (slotM 1) nilL)) (tupG 2 (consG (nameG [] 6) (consG (nameG [] 7) nilG))) (seqM (setSubM 2 (callM F_lessened (consA (datA (ixM (slotA 2) (datA (binM .Add (slotA 4) (slotA 6))))) (consA (datA (callM F_scaled (consA (datA (slotM 5)) (consA (datA (slotM 7)) nilA)))) nilA))) (datA (binM .Add (slotA 4) (slotA 6)))) nextM)) (seqM (setM [] 2 (bcM listW (consA (datA (callM F_trimmed (consA (datA (slotM 2)) nilA))) nilA))) nextM)))) 1000000) (seqM (retM (tupM (consL (callM F_trimmed (consA (datA (slotM 3)) nilA)) (consL (bcM tupleW (consA (slotA 2) nilA)) nilL)))) nextM)))
def F_shared_by : FnSem := fnM 8 [false, false] m_shared_by
theorem e_shared_by : rd c_shared_by (defBody (top 37)) = m_shared_by := by kernel_rfl
theorem s_shared_by : FnScope ["row", "by", "rest", "out", "lead", "many", "k", "item"] ["row", "by"] (defScope (top 37)) := ⟨rfl, rfl, rfl, by decide +kernel, rfl, by decide +kernel, by decide +kernel⟩
def c_ring_by : Sc := { N := ["number", "out", "done", "rest", "prime", "wide"], sc := defScope (top 40), io := [], all := true, gl := [("int", .bT "int"), ("shared_by", .fn F_shared_by [false, false]), ("stretched_by", .fn F_stretched_by [false, false]), ("ONE", .con (.tup [(.int (1)), (.int (1))]))], lim := 1000000 }
def m_ring_by : M Fl := (seqM (asgM (tupG 4 (consG (nameG [] 1) (consG (nameG [] 2) (consG (nameG [] 3) (consG (nameG [] 4) nilG))))) (tupM (consL (tupM (consL (tupM (consL (negM (datA (constM (.int (1))))) (consL (constM (.int (1))) nilL))) (consL (constM (.tup [(.int (1)), (.int (1))])) nilL))) (consL (constM (.int (1))) (consL (slotM 0) (consL (constM (.int (2))) nilL)))))) (seqM (whileM (boolM (cmpM .Gt (slotA 3) (datA (constM (.int (1)))))) (seqM (ifS (boolM (cmpM .Gt (datA (binM .Mod (datA (bcM intW (consA (slotA 3) nilA))) (slotA 4))) (datA (constM (.int (0)))))) (seqM (setM [] 4 (binM .Add (slotA 4) (datA (constM (.int (1)))))) (seqM (fun ρ => .ok .cont ρ) nextM)) nextM) (seqM (setM [] 5 (callM F_stretched_by (consA (datA (slotM 1)) (consA (datA (slotM 4)) nilA)))) (seqM (setM [] 1 (ifM (boolM (cmpM .Eq (datA (binM .Mod (datA (bcM intW (consA (slotA 2) nilA))) (slotA 4))) (datA (constM (.int (0)))))) (slotM 5) (ixM (datA (callM F_shared_by (consA (datA (slotM 5)) (consA (datA (slotM 1)) nilA)))) (datA (constM (.int (0))))))) (seqM (parM [] 2 3 (binM .Mult (slotA 2) (slotA 4)) (binM .FloorDiv (slotA 3) (slotA 4))) nextM)))) 1000000) (seqM (retS [] 1) nextM)))
def F_ring_by : FnSem := fnM 6 [false] m_ring_by
theorem e_ring_by : rd c_ring_by (defBody (top 40)) = m_ring_by := by kernel_rfl
theorem s_ring_by : FnScope ["number", "out", "done", "rest", "prime", "wide"] ["number"] (defScope (top 40)) := ⟨rfl, rfl, rfl, by decide +kernel, rfl, by decide +kernel, by decide +kernel⟩
def c_ring_row : Sc := { N := ["number"], sc := defScope (top 41), io := [], all := true, gl := [("ring_by", .fn F_ring_by [false]), ("need_between", .fn F_need_between [false, false, false, false]), ("MOST_RING", .con (.int (60)))], lim := 1000000 }
def m_ring_row : M Fl := (seqM (dropM (callM F_need_between (consA (datA (constM (.str "number"))) (consA (datA (slotM 0)) (consA (datA (constM (.int (1)))) (consA (datA (constM (.int (60)))) nilA)))))) (seqM (retM (callM F_ring_by (consA (datA (slotM 0)) nilA))) nextM))
def F_ring_row : FnSem := fnM 1 [false] m_ring_row
theorem e_ring_row : rd c_ring_row (defBody (top 41)) = m_ring_row := by kernel_rfl
theorem s_ring_row : FnScope ["number"] ["number"] (defScope (top 41)) := ⟨rfl, rfl, rfl, by decide +kernel, rfl, by decide +kernel, by decide +kernel⟩
def c_law_pen : Sc := { N := ["script", "fold", "cell"], sc := defScope (top 43), io := [], all := true, gl := [("list", .bT "list"), ("int", .bT "int")], lim := 1000000 }
def m_law_pen : M Fl := (seqM (setM [] 1 (constM (.int (0)))) (seqM (forS (iterM (slotM 0)) (nameG [] 2) (seqM (setM [] 1 (binM .Mod (datA (bcM intW (consA (datA (binM .Add (datA (binM .Mult (slotA 1) (datA (constM (.int (199)))))) (slotA 2))) nilA))) (datA (constM (.int (999998689)))))) nextM)) (seqM (retM (dictM [(.inr "cells", (bcM listW (consA (slotA 0) nilA))), (.inr "at", (constM (.int (0)))), (.inr "digits", (constM (.int (0)))), (.inr "count", (constM (.int (0)))), (.inr "fold", (slotM 1))])) nextM)))
def F_law_pen : FnSem := fnM 3 [false] m_law_pen
theorem e_law_pen : rd c_law_pen (defBody (top 43)) = m_law_pen := by kernel_rfl
theorem s_law_pen : FnScope ["script", "fold", "cell"] ["script"] (defScope (top 43)) := ⟨rfl, rfl, rfl, by decide +kernel, rfl, by decide +kernel, by decide +kernel⟩
def c_law_draw : Sc := { N := ["pen", "many", "cell", "digit", "blend"], sc := defScope (top 44), io := [0], all := true, gl := [("int", .bT "int"), ("len", .bB "len")], lim := 1000000 }
def m_law_draw : M Fl := (seqM (setSubM 0 (binM .Add (datA (ixM (slotA 0) (datA (constM (.str "count"))))) (datA (constM (.int (1))))) (datA (constM (.str "count")))) (seqM (ifS (andB (boolM (cmpM .Eq (datA (ixM (slotA 0) (datA (constM (.str "digits"))))) (datA (constM (.int (0)))))) (boolM (cmpM .Lt (datA (ixM (slotA 0) (datA (constM (.str "at"))))) (datA (bcM lenW (consA (datA (ixM (slotA 0) (datA (constM (.str "cells"))))) nilA)))))) (seqM (setM [0] 2 (ixM (datA (ixM (slotA 0) (datA (constM (.str "cells"))))) (datA (ixM (slotA 0) (datA (constM (.str "at"))))))) (seqM (setSubM 0 (binM .Add (datA (ixM (slotA 0) (datA (constM (.str "at"))))) (datA (constM (.int (1))))) (datA (constM (.str "at")))) (seqM (ifS (boolM (cmpM .GtE (slotA 2) (datA (binM .Pow (datA (constM (.int (10)))) (datA (constM (.int (18)))))))) (seqM (setSubM 0 (binM .Sub (slotA 2) (datA (binM .Pow (datA (constM (.int (10)))) (datA (constM (.int (18))))))) (datA (constM (.str "digits")))) nextM) (seqM (setSubM 0 (binM .Mod (datA (bcM intW (consA (datA (binM .Add (datA (binM .Mult (datA (ixM (slotA 0) (datA (constM (.str "fold"))))) (datA (constM (.int (50021)))))) (slotA 2))) nilA))) (datA (constM (.int (2147482943))))) (datA (constM (.str "fold")))) nextM)) nextM))) nextM) (seqM (ifS (boolM (cmpM .Gt (datA (ixM (slotA 0) (datA (constM (.str "digits"))))) (datA (constM (.int (0)))))) (seqM (setM [0] 3 (binM .Mod (datA (bcM intW (consA (datA (ixM (slotA 0) (datA (constM (.str "digits"))))) nilA))) (slotA 1))) (seqM (setSubM 0 (binM .FloorDiv (datA (ixM (slotA 0) (datA (constM (.str "digits"))))) (slotA 1)) (datA (constM (.str "digits")))) (seqM (retS [0] 3) nextM))) nextM) (seqM (setM [0] 4 (binM .Add (datA (binM .Add (datA (ixM (slotA 0) (datA (constM (.str "fold"))))) (datA (binM .Mult (datA (ixM (slotA 0) (datA (constM (.str "count"))))) (datA (constM (.int (7507)))))))) (datA (constM (.int (239)))))) (seqM (retM (binM .Mod (datA (binM .FloorDiv (datA (bcM intW (consA (datA (binM .Mod (datA (binM .Pow (slotA 4) (datA (constM (.int (61)))))) (datA (constM (.int (2305843009213693951)))))) nilA))) (datA (constM (.int (2048)))))) (slotA 1))) nextM)))))
def F_law_draw : FnSem := fnM 5 [true, false] m_law_draw
theorem e_law_draw : rd c_law_draw (defBody (top 44)) = m_law_draw := by kernel_rfl
theorem s_law_draw : FnScope ["pen", "many", "cell", "digit", "blend"] ["pen", "many"] (defScope (top 44)) := ⟨rfl, rfl, rfl, by decide +kernel, rfl, by decide +kernel, by decide +kernel⟩
def c_law_pick : Sc := { N := ["pen", "some"], sc := defScope (top 45), io := [0], all := true, gl := [("_law_draw", .fn F_law_draw [true, false]), ("len", .bB "len")], lim := 1000000 }
def m_law_pick : M Fl := (seqM (retM (ixM (slotA 1) (datA (callM F_law_draw (consA (slotA 0) (consA (datA (bcM lenW (consA (slotA 1) nilA))) nilA)))))) nextM)
def F_law_pick : FnSem := fnM 2 [true, false] m_law_pick
theorem e_law_pick : rd c_law_pick (defBody (top 45)) = m_law_pick := by kernel_rfl
theorem s_law_pick : FnScope ["pen", "some"] ["pen", "some"] (defScope (top 45)) := ⟨rfl, rfl, rfl, by decide +kernel, rfl, by decide +kernel, by decide +kernel⟩
def c_law_is_int : Sc := { N := ["thing"], sc := defScope (top 46), io := [], all := true, gl := [("isinstance", .bB "isinstance"), ("int", .bT "int"), ("bool", .bT "bool")], lim := 1000000 }
def m_law_is_int : M Fl := (seqM (retM (andM (bcM isiW (consA (slotA 0) (consA (datA (constM (.ty "int"))) nilA))) (notM (datA (bcM isiW (consA (slotA 0) (consA (datA (constM (.ty "bool"))) nilA))))))) nextM)
def F_law_is_int : FnSem := fnM 1 [false] m_law_is_int
theorem e_law_is_int : rd c_law_is_int (defBody (top 46)) = m_law_is_int := by kernel_rfl
theorem s_law_is_int : FnScope ["thing"] ["thing"] (defScope (top 46)) := ⟨rfl, rfl, rfl, by decide +kernel, rfl, by decide +kernel, by decide +kernel⟩
def c_law_gcd : Sc := { N := ["one", "two", "lap"], sc := defScope (top 47), io := [], all := true, gl := [("range", .bT "range"), ("int", .bT "int"), ("abs", .bB "abs")], lim := 1000000 }
def m_law_gcd : M Fl := (seqM (parM [] 0 1 (bcM absW (consA (slotA 0) nilA)) (bcM absW (consA (slotA 1) nilA))) (seqM (forS (iterL range1D (consL (binM .Add (datA (constM (.int (4)))) (datA (binM .Mult (datA (constM (.int (2)))) (datA (bitsM (datA (bcM intW (consA (slotA 1) nilA)))))))) nilL)) (nameG [] 2) (seqM (ifS (boolM (cmpM .Eq (slotA 1) (datA (constM (.int (0)))))) (seqM (fun ρ => .ok .brk ρ) nextM) nextM) (seqM (parM [] 0 1 (slotM 1) (binM .Mod (datA (bcM intW (consA (slotA 0) nilA))) (slotA 1))) nextM))) (seqM (retS [] 0) nextM)))
def F_law_gcd : FnSem := fnM 3 [false, false] m_law_gcd
theorem e_law_gcd : rd c_law_gcd (defBody (top 47)) = m_law_gcd := by kernel_rfl
theorem s_law_gcd : FnScope ["one", "two", "lap"] ["one", "two"] (defScope (top 47)) := ⟨rfl, rfl, rfl, by decide +kernel, rfl, by decide +kernel, by decide +kernel⟩
def c_law_q : Sc := { N := ["top", "bottom", "by"], sc := defScope (top 48), io := [], all := true, gl := [("_law_gcd", .fn F_law_gcd [false, false])], lim := 1000000 }
def m_law_q : M Fl := (seqM (setM [] 2 (callM F_law_gcd (consA (datA (slotM 0)) (consA (datA (slotM 1)) nilA)))) (seqM (setM [] 2 (ifM (boolM (cmpM .Lt (slotA 1) (datA (constM (.int (0)))))) (negM (slotA 2)) (slotM 2))) (seqM (retM (tupM (consL (binM .FloorDiv (slotA 0) (slotA 2)) (consL (binM .FloorDiv (slotA 1) (slotA 2)) nilL)))) nextM)))
def F_law_q : FnSem := fnM 3 [false, false] m_law_q
theorem e_law_q : rd c_law_q (defBody (top 48)) = m_law_q := by kernel_rfl
theorem s_law_q : FnScope ["top", "bottom", "by"] ["top", "bottom"] (defScope (top 48)) := ⟨rfl, rfl, rfl, by decide +kernel, rfl, by decide +kernel, by decide +kernel⟩
def c_law_times : Sc := { N := ["one", "two"], sc := defScope (top 49), io := [], all := true, gl := [("_law_q", .fn F_law_q [false, false])], lim := 1000000 }
def m_law_times : M Fl := (seqM (retM (callM F_law_q (consA (datA (binM .Mult (datA (ixM (slotA 0) (datA (constM (.int (0)))))) (datA (ixM (slotA 1) (datA (constM (.int (0)))))))) (consA (datA (binM .Mult (datA (ixM (slotA 0) (datA (constM (.int (1)))))) (datA (ixM (slotA 1) (datA (constM (.int (1)))))))) nilA)))) nextM)
def F_law_times : FnSem := fnM 2 [false, false] m_law_times
theorem e_law_times : rd c_law_times (defBody (top 49)) = m_law_times := by kernel_rfl
theorem s_law_times : FnScope ["one", "two"] ["one", "two"] (defScope (top 49)) := ⟨rfl, rfl, rfl, by decide +kernel, rfl, by decide +kernel, by decide +kernel⟩
def c_law_minus : Sc := { N := ["one", "two"], sc := defScope (top 50), io := [], all := true, gl := [("_law_q", .fn F_law_q [false, false])], lim := 1000000 }
def m_law_minus : M Fl := (seqM (retM (callM F_law_q (consA (datA (binM .Sub (datA (binM .Mult (datA (ixM (slotA 0) (datA (constM (.int (0)))))) (datA (ixM (slotA 1) (datA (constM (.int (1)))))))) (datA (binM .Mult (datA (ixM (slotA 1) (datA (constM (.int (0)))))) (datA (ixM (slotA 0) (datA (constM (.int (1)))))))))) (consA (datA (binM .Mult (datA (ixM (slotA 0) (datA (constM (.int (1)))))) (datA (ixM (slotA 1) (datA (constM (.int (1)))))))) nilA)))) nextM)
def F_law_minus : FnSem := fnM 2 [false, false] m_law_minus
theorem e_law_minus : rd c_law_minus (defBody (top 50)) = m_law_minus := by kernel_rfl
theorem s_law_minus : FnScope ["one", "two"] ["one", "two"] (defScope (top 50)) := ⟨rfl, rfl, rfl, by decide +kernel, rfl, by decide +kernel, by decide +kernel⟩
def c_law_share : Sc := { N := ["one", "two"], sc := defScope (top 51), io := [], all := true, gl := [("_law_q", .fn F_law_q [false, false])], lim := 1000000 }
def m_law_share : M Fl := (seqM (retM (callM F_law_q (consA (datA (binM .Mult (datA (ixM (slotA 0) (datA (constM (.int (0)))))) (datA (ixM (slotA 1) (datA (constM (.int (1)))))))) (consA (datA (binM .Mult (datA (ixM (slotA 0) (datA (constM (.int (1)))))) (datA (ixM (slotA 1) (datA (constM (.int (0)))))))) nilA)))) nextM)
def F_law_share : FnSem := fnM 2 [false, false] m_law_share
theorem e_law_share : rd c_law_share (defBody (top 51)) = m_law_share := by kernel_rfl
theorem s_law_share : FnScope ["one", "two"] ["one", "two"] (defScope (top 51)) := ⟨rfl, rfl, rfl, by decide +kernel, rfl, by decide +kernel, by decide +kernel⟩
def c_law_is_told : Sc := { N := ["thing"], sc := defScope (top 52), io := [], all := true, gl := [("_law_gcd", .fn F_law_gcd [false, false]), ("isinstance", .bB "isinstance"), ("tuple", .bT "tuple"), ("len", .bB "len"), ("_law_is_int", .fn F_law_is_int [false])], lim := 1000000 }
def m_law_is_told : M Fl := (seqM (ifS (orB (notB (testM (datA (bcM isiW (consA (slotA 0) (consA (datA (constM (.ty "tuple"))) nilA)))))) (orB (boolM (cmpM .NotEq (datA (bcM lenW (consA (slotA 0) nilA))) (datA (constM (.int (2)))))) (orB (notB (testM (datA (callM F_law_is_int (consA (datA (ixM (slotA 0) (datA (constM (.int (0)))))) nilA))))) (notB (testM (datA (callM F_law_is_int (consA (datA (ixM (slotA 0) (datA (constM (.int (1)))))) nilA)))))))) (seqM (retM (constM (.bl false))) nextM) nextM) (seqM (retM (andM (cmpM .Gt (datA (ixM (slotA 0) (datA (constM (.int (1)))))) (datA (constM (.int (0))))) (cmpM .Eq (datA (callM F_law_gcd (consA (datA (ixM (slotA 0) (datA (constM (.int (0)))))) (consA (datA (ixM (slotA 0) (datA (constM (.int (1)))))) nilA)))) (datA (constM (.int (1))))))) nextM))
def F_law_is_told : FnSem := fnM 1 [false] m_law_is_told
theorem e_law_is_told : rd c_law_is_told (defBody (top 52)) = m_law_is_told := by kernel_rfl
theorem s_law_is_told : FnScope ["thing"] ["thing"] (defScope (top 52)) := ⟨rfl, rfl, rfl, by decide +kernel, rfl, by decide +kernel, by decide +kernel⟩
def c_law_fault (Λ : D → FR) : Sc := { N := ["action", "error"], sc := defScope (top 53), io := [], all := true, gl := [("BadText", .ex "BadText" ["line", "column"]), ("BadNumber", .ex "BadNumber" ["what", "number"]), ("BadRow", .ex "BadRow" ["row"]), ("TooMany", .ex "TooMany" ["what", "many", "limit"]), ("Unlike", .ex "Unlike" ["what"])], lim := 1000000, cls := clsTab, act := Λ }
def m_law_fault (Λ : D → FR) : M Fl := (seqM (tryM (subC (c_law_fault Λ)) (seqM (dropM (actM Λ 0)) (seqM (retM (constM .non)) nextM)) [⟨"BadText", some (1, [.inl "text", .inr "line", .inr "column"])⟩, ⟨"BadNumber", some (1, [.inl "number", .inr "what", .inr "number"])⟩, ⟨"BadRow", some (1, [.inl "row", .inr "row"])⟩, ⟨"TooMany", some (1, [.inl "many", .inr "what", .inr "many", .inr "limit"])⟩, ⟨"Unlike", some (1, [.inl "unlike", .inr "what"])⟩]) nextM)
def F_law_fault : (D → FR) → FnSem := fun Λ => fnM 2 [false] (m_law_fault Λ)
theorem e_law_fault (Λ : D → FR) : rd (c_law_fault Λ) (defBody (top 53)) = m_law_fault Λ := by kernel_rfl
theorem s_law_fault : FnScope ["action", "error"] ["action"] (defScope (top 53)) := ⟨rfl, rfl, rfl, by decide +kernel, rfl, by decide +kernel, by decide +kernel⟩
def c_law_are_due (Λ : D → FR) : Sc := { N := ["tries", "action", "due"], sc := defScope (top 54), io := [], all := true, gl := [("all", .bB "all"), ("repr", .bB "repr"), ("_law_fault", .fnL F_law_fault [false])], lim := 1000000, act := Λ }
def m_law_are_due (Λ : D → FR) : M Fl := (seqM (retM (bcM allW (consA (datA (lcM (iterM (slotM 0)) (tupG 2 (consG (nameG [0] 1) (consG (nameG [0] 2) nilG))) yesM (cmpM .Eq (datA (bcM reprW (consA (datA (callM (F_law_fault Λ) (consA (datA (slotM 1)) nilA))) nilA))) (datA (bcM reprW (consA (slotA 2) nilA)))) [1, 2])) nilA))) nextM)
def F_law_are_due : (D → FR) → FnSem := fun Λ => fnM 3 [false] (m_law_are_due Λ)
theorem e_law_are_due (Λ : D → FR) : rd (c_law_are_due Λ) (defBody (top 54)) = m_law_are_due Λ := by kernel_rfl
theorem s_law_are_due : FnScope ["tries", "action", "due"] ["tries"] (defScope (top 54)) := ⟨rfl, rfl, rfl, by decide +kernel, rfl, by decide +kernel, by decide +kernel⟩
def c_law_trim : Sc := { N := ["row", "found"], sc := defScope (top 55), io := [], all := true, gl := [("tuple", .bT "tuple"), ("list", .bT "list")], lim := 1000000 }
def m_law_trim : M Fl := (seqM (setM [] 1 (bcM listW (consA (slotA 0) nilA))) (seqM (whileM (andB (boolM (cmpM .NotEq (slotA 1) (datA (lstM nilL)))) (boolM (cmpM .Eq (datA (ixM (datA (ixM (slotA 1) (datA (negM (datA (constM (.int (1)))))))) (datA (constM (.int (0)))))) (datA (constM (.int (0))))))) (seqM (dropM (popM 1)) nextM) 1000000) (seqM (retM (bcM tupleW (consA (slotA 1) nilA))) nextM)))
def F_law_trim : FnSem := fnM 2 [false] m_law_trim
theorem e_law_trim : rd c_law_trim (defBody (top 55)) = m_law_trim := by kernel_rfl
theorem s_law_trim : FnScope ["row", "found"] ["row"] (defScope (top 55)) := ⟨rfl, rfl, rfl, by decide +kernel, rfl, by decide +kernel, by decide +kernel⟩
def c_law_row_parted : Sc := { N := ["one", "other", "left", "found", "by", "ahead", "k", "item"], sc := defScope (top 56), io := [], all := true, gl := [("_law_trim", .fn F_law_trim [false]), ("len", .bB "len"), ("enumerate", .bT "enumerate"), ("_law_minus", .fn F_law_minus [false, false]), ("_law_times", .fn F_law_times [false, false]), ("_law_share", .fn F_law_share [false, false]), ("list", .bT "list")], lim := 1000000 }
def m_law_row_parted : M Fl := (seqM (parM [] 2 3 (bcM listW (consA (datA (callM F_law_trim (consA (datA (slotM 0)) nilA))) nilA)) (lstM nilL)) (seqM (whileM (boolM (cmpM .GtE (datA (bcM lenW (consA (slotA 2) nilA))) (datA (bcM lenW (consA (slotA 1) nilA))))) (seqM (setM [] 4 (callM F_law_share (consA (datA (ixM (slotA 2) (datA (negM (datA (constM (.int (1)))))))) (consA (datA (ixM (slotA 1) (datA (negM (datA (constM (.int (1)))))))) nilA)))) (seqM (dropM (appM 3 (slotM 4))) (seqM (setM [] 5 (binM .Sub (datA (bcM lenW (consA (slotA 2) nilA))) (datA (bcM lenW (consA (slotA 1) nilA))))) (seqM (setM [] 2 (slM (datA (lcM (iterL enumD (consL (slotM 2) nilL)) (tupG 2 (consG (nameG [0, 1, 2, 3, 4, 5] 6) (consG (nameG [0, 1, 2, 3, 4, 5] 7) nilG))) yesM (ifM (boolM (cmpM .GtE (slotA 6) (slotA 5))) (callM F_law_minus (consA (datA (slotM 7)) (consA (datA (callM F_law_times (consA (datA (slotM 4)) (consA (datA (ixM (slotA 1) (datA (binM .Sub (slotA 6) (slotA 5))))) nilA)))) nilA))) (slotM 7)) [6, 7])) noPart (partM (negM (datA (constM (.int (1)))))))) nextM)))) 1000000) (seqM (retM (tupM (consL (callM F_law_trim (consA (datA (slSM (slotA 3) noPart noPart (partM (negM (datA (constM (.int (1)))))))) nilA)) (consL (callM F_law_trim (consA (datA (slotM 2)) nilA)) nilL)))) nextM)))
def F_law_row_parted : FnSem := fnM 8 [false, false] m_law_row_parted
theorem e_law_row_parted : rd c_law_row_parted (defBody (top 56)) = m_law_row_parted := by kernel_rfl
theorem s_law_row_parted : FnScope ["one", "other", "left", "found", "by", "ahead", "k", "item"] ["one", "other"] (defScope (top 56)) := ⟨rfl, rfl, rfl, by decide +kernel, rfl, by decide +kernel, by decide +kernel⟩
def c_law_h_is_row : Sc := { N := ["thing", "item"], sc := defScope (top 57), io := [], all := true, gl := [("isinstance", .bB "isinstance"), ("tuple", .bT "tuple"), ("all", .bB "all"), ("_law_is_told", .fn F_law_is_told [false])], lim := 1000000 }
def m_law_h_is_row : M Fl := (seqM (ifS (orB (notB (testM (datA (bcM isiW (consA (slotA 0) (consA (datA (constM (.ty "tuple"))) nilA)))))) (notB (testM (datA (bcM allW (consA (datA (lcM (iterM (slotM 0)) (nameG [0] 1) yesM (callM F_law_is_told (consA (datA (slotM 1)) nilA)) [1])) nilA)))))) (seqM (retM (constM (.bl false))) nextM) nextM) (seqM (retM (orM (cmpM .Eq (slotA 0) (datA (tupM nilL))) (cmpM .NotEq (datA (ixM (datA (ixM (slotA 0) (datA (negM (datA (constM (.int (1)))))))) (datA (constM (.int (0)))))) (datA (constM (.int (0))))))) nextM))
def F_law_h_is_row : FnSem := fnM 2 [false] m_law_h_is_row
theorem e_law_h_is_row : rd c_law_h_is_row (defBody (top 57)) = m_law_h_is_row := by kernel_rfl
theorem s_law_h_is_row : FnScope ["thing", "item"] ["thing"] (defScope (top 57)) := ⟨rfl, rfl, rfl, by decide +kernel, rfl, by decide +kernel, by decide +kernel⟩
def c_law_h_ring : Sc := { N := ["number", "found", "m", "row", "k"], sc := defScope (top 58), io := [], all := true, gl := [("range", .bT "range"), ("int", .bT "int"), ("_law_row_parted", .fn F_law_row_parted [false, false])], lim := 1000000, dl := ["found"] }
def m_law_h_ring : M Fl := (seqM (setM [] 1 dct0M) (seqM (forS (iterM (lcM (iterL range2D (consL (constM (.int (1))) (consL (binM .Add (slotA 0) (datA (constM (.int (1))))) nilL))) (nameG [0, 1, 2, 3] 4) (boolM (cmpM .Eq (datA (binM .Mod (datA (bcM intW (consA (slotA 0) nilA))) (slotA 4))) (datA (constM (.int (0)))))) (slotM 4) [4])) (nameG [] 2) (seqM (setM [] 3 (binM .Add (datA (binM .Add (datA (tupM (consL (tupM (consL (negM (datA (constM (.int (1))))) (consL (constM (.int (1))) nilL))) nilL))) (datA (binM .Mult (datA (tupM (consL (tupM (consL (constM (.int (0))) (consL (constM (.int (1))) nilL))) nilL))) (datA (binM .Sub (slotA 2) (datA (constM (.int (1)))))))))) (datA (tupM (consL (tupM (consL (constM (.int (1))) (consL (constM (.int (1))) nilL))) nilL))))) (seqM (lockS 1 (forS (iterM (slotM 1)) (nameG [1] 4) (seqM (ifS (boolM (cmpM .Eq (datA (binM .Mod (datA (bcM intW (consA (slotA 2) nilA))) (slotA 4))) (datA (constM (.int (0)))))) (seqM (setM [1] 3 (ixM (datA (callM F_law_row_parted (consA (datA (slotM 3)) (consA (datA (ixM (slotA 1) (slotA 4))) nilA)))) (datA (constM (.int (0)))))) nextM) nextM) nextM))) (seqM (setSubM 1 (slotM 3) (slotA 2)) nextM)))) (seqM (retM (ixM (slotA 1) (slotA 0))) nextM)))
def F_law_h_ring : FnSem := fnM 5 [false] m_law_h_ring
theorem e_law_h_ring : rd c_law_h_ring (defBody (top 58)) = m_law_h_ring := by kernel_rfl
theorem s_law_h_ring : FnScope ["number", "found", "m", "row", "k"] ["number"] (defScope (top 58)) := ⟨rfl, rfl, rfl, by decide +kernel, rfl, by decide +kernel, by decide +kernel⟩
def c_law_prime_of : Sc := { N := ["number", "some", "rest", "k"], sc := defScope (top 59), io := [], all := true, gl := [("int", .bT "int"), ("range", .bT "range")], lim := 1000000 }
def m_law_prime_of : M Fl := (seqM (setM [] 1 (lcM (iterL range2D (consL (constM (.int (2))) (consL (binM .Add (slotA 0) (datA (constM (.int (1))))) nilL))) (nameG [0, 1, 2] 3) (boolM (cmpM .Eq (datA (binM .Mod (datA (bcM intW (consA (slotA 0) nilA))) (slotA 3))) (datA (constM (.int (0)))))) (slotM 3) [3])) (seqM (setM [] 2 (slotM 0)) (seqM (whileM (boolM (cmpM .Eq (datA (binM .Mod (datA (bcM intW (consA (slotA 2) nilA))) (datA (ixM (slotA 1) (datA (constM (.int (0)))))))) (datA (constM (.int (0)))))) (seqM (setM [] 2 (binM .FloorDiv (slotA 2) (datA (ixM (slotA 1) (datA (constM (.int (0)))))))) nextM) 1000000) (seqM (retM (ifM (boolM (cmpM .Eq (slotA 2) (datA (constM (.int (1)))))) (ixM (slotA 1) (datA (constM (.int (0))))) (constM (.int (1))))) nextM))))
def F_law_prime_of : FnSem := fnM 4 [false] m_law_prime_of
theorem e_law_prime_of : rd c_law_prime_of (defBody (top 59)) = m_law_prime_of := by kernel_rfl
theorem s_law_prime_of : FnScope ["number", "some", "rest", "k"] ["number"] (defScope (top 59)) := ⟨rfl, rfl, rfl, by decide +kernel, rfl, by decide +kernel, by decide +kernel⟩
abbrev q_law : Str := Str.ofString "law" ++ Str.ofString ".<locals>." ++ Str.ofString "<lambda>"
def cl_law (a : Nat) : List (Str × Addr) := cellsFrom (a + 1) (defScope (top 60)).names []
def lg_law : List (Str × GE) := [("ring_row", .fn F_ring_row [false])]
def lm_law (a : Nat) : MkI := ⟨cl_law a, q_law, lg_law⟩
def lx_law (k : Nat) : Expr := (lamsB 40 (defBody (top 60))).getD k (.Constant .none 0 ⟨0, 0, 0, 0⟩)
def c_law (a : Nat) : Sc := { N := ["script", "pen", "number", "row", "whole", "k", "free", "bad", "item"], sc := defScope (top 60), io := [], all := true, gl := [("_law_are_due", .fnL F_law_are_due [false]), ("_law_pick", .fn F_law_pick [true, false]), ("_law_draw", .fn F_law_draw [true, false]), ("len", .bB "len"), ("range", .bT "range"), ("_law_gcd", .fn F_law_gcd [false, false]), ("row_at", .fn F_row_at [false, false]), ("_law_prime_of", .fn F_law_prime_of [false]), ("back_row", .fn F_back_row [false]), ("int", .bT "int"), ("row_product_polyrows", .fn F_row_product [false, false]), ("ring_row", .fn F_ring_row [false]), ("repr", .bB "repr"), ("_law_h_ring", .fn F_law_h_ring [false]), ("_law_h_is_row", .fn F_law_h_is_row [false]), ("any", .bB "any"), ("_law_pen", .fn F_law_pen [false])], lim := 1000000, lm := some (lm_law a) }
def m_law (a : Nat) : M Fl := (seqM (setM [] 1 (callM F_law_pen (consA (datA (slotM 0)) nilA))) (seqM (forS (iterM (lstM (consL (constM (.int (1))) (consL (callM F_law_pick (consA (slotA 1) (consA (datA (lstM (consL (constM (.int (30))) (consL (constM (.int (42))) (consL (constM (.int (60))) (consL (constM (.int (45))) (consL (constM (.int (36))) nilL))))))) nilA))) (consL (binM .Add (datA (constM (.int (2)))) (datA (callM F_law_draw (consA (slotA 1) (consA (datA (constM (.int (59)))) nilA))))) (consL (binM .Add (datA (constM (.int (2)))) (datA (callM F_law_draw (consA (slotA 1) (consA (datA (constM (.int (20)))) nilA))))) nilL)))))) (nameG [] 2) (seqM (setM [] 3 (callM F_ring_row (consA (datA (slotM 2)) nilA))) (seqM (ifS (orB (boolM (cmpM .NotEq (datA (bcM reprW (consA (slotA 3) nilA))) (datA (bcM reprW (consA (datA (callM F_law_h_ring (consA (datA (slotM 2)) nilA))) nilA))))) (orB (notB (testM (datA (callM F_law_h_is_row (consA (datA (slotM 3)) nilA))))) (orB (boolM (cmpM .NotEq (datA (ixM (slotA 3) (datA (negM (datA (constM (.int (1)))))))) (datA (tupM (consL (constM (.int (1))) (consL (constM (.int (1))) nilL)))))) (testM (datA (bcM anyW (consA (datA (lcM (iterM (slotM 3)) (nameG [0, 1, 2, 3, 4, 5, 6, 7] 8) yesM (cmpM .NotEq (datA (ixM (slotA 8) (datA (constM (.int (1)))))) (datA (constM (.int (1))))) [8])) nilA))))))) (seqM (retM (constM (.bl false))) nextM) nextM) (seqM (setM [] 4 (tupM (consL (tupM (consL (constM (.int (1))) (consL (constM (.int (1))) nilL))) nilL))) (seqM (forS (iterM (lcM (iterL range2D (consL (constM (.int (1))) (consL (binM .Add (slotA 2) (datA (constM (.int (1))))) nilL))) (nameG [0, 1, 2, 3, 4, 6, 7, 8] 5) (boolM (cmpM .Eq (datA (binM .Mod (datA (bcM intW (consA (slotA 2) nilA))) (slotA 5))) (datA (constM (.int (0)))))) (slotM 5) [5])) (nameG [] 5) (seqM (setM [] 4 (callM F_row_product (consA (datA (slotM 4)) (consA (datA (callM F_ring_row (consA (datA (slotM 5)) nilA))) nilA)))) nextM)) (seqM (ifS (boolM (cmpM .NotEq (slotA 4) (datA (binM .Add (datA (binM .Add (datA (tupM (consL (tupM (consL (negM (datA (constM (.int (1))))) (consL (constM (.int (1))) nilL))) nilL))) (datA (binM .Mult (datA (tupM (consL (tupM (consL (constM (.int (0))) (consL (constM (.int (1))) nilL))) nilL))) (datA (binM .Sub (slotA 2) (datA (constM (.int (1)))))))))) (datA (tupM (consL (tupM (consL (constM (.int (1))) (consL (constM (.int (1))) nilL))) nilL))))))) (seqM (retM (constM (.bl false))) nextM) nextM) (seqM (ifS (andB (boolM (cmpM .Gt (slotA 2) (datA (constM (.int (1)))))) (orB (boolM (cmpM .NotEq (datA (callM F_row_at (consA (datA (slotM 3)) (consA (datA (constM (.int (1)))) nilA)))) (datA (tupM (consL (callM F_law_prime_of (consA (datA (slotM 2)) nilA)) (consL (constM (.int (1))) nilL)))))) (orB (boolM (cmpM .NotEq (datA (callM F_back_row (consA (datA (slotM 3)) nilA))) (slotA 3))) (boolM (cmpM .NotEq (datA (callM F_row_at (consA (datA (slotM 3)) (consA (datA (constM (.int (0)))) nilA)))) (datA (tupM (consL (constM (.int (1))) (consL (constM (.int (1))) nilL))))))))) (seqM (retM (constM (.bl false))) nextM) nextM) (seqM (setM [] 6 (lcM (iterL range2D (consL (constM (.int (1))) (consL (binM .Add (slotA 2) (datA (constM (.int (1))))) nilL))) (nameG [0, 1, 2, 3, 4, 6, 7, 8] 5) (boolM (cmpM .Eq (datA (callM F_law_gcd (consA (datA (slotM 5)) (consA (datA (slotM 2)) nilA)))) (datA (constM (.int (1)))))) (slotM 5) [5])) (seqM (ifS (boolM (cmpM .NotEq (datA (bcM lenW (consA (slotA 3) nilA))) (datA (binM .Add (datA (bcM lenW (consA (slotA 6) nilA))) (datA (constM (.int (1)))))))) (seqM (retM (constM (.bl false))) nextM) nextM) nextM))))))))) (seqM (setM [] 7 (callM F_law_pick (consA (slotA 1) (consA (datA (lstM (consL (constM .non) (consL (constM (.int (0))) (consL (constM (.int (61))) (consL (negM (datA (constM (.int (3))))) (consL (constM (.bl true)) (consL (constM (.str "3")) (consL (tupM (consL (constM (.int (3))) (consL (constM (.int (1))) nilL))) (consL (binM .Pow (datA (constM (.int (10)))) (datA (constM (.int (9))))) nilL)))))))))) nilA)))) (seqM (retM (callL F_law_are_due (lamA (cmN 23) (c_law a) (lm_law a)) (consA (datA (lstM (consL (tupM (consL (lamM (cl_law a) q_law (capt (c_law a) (lamScp (lx_law 0))) (lamPar (lx_law 0)) (lamBod (lx_law 0)) (lamScp (lx_law 0))) (consL (tupM (consL (constM (.str "number")) (consL (constM (.str "number")) (consL (slotM 7) nilL)))) nilL))) nilL))) nilA))) nextM))))
def F_law (a : Nat) : FnSem := fnM 9 [false] (m_law a)
theorem e_law (a : Nat) : rd (c_law a) (defBody (top 60)) = m_law a := by kernel_rfl
def ml_law_0 : M W := (callM F_ring_row (consA (datA (slotM 7)) nilA))
theorem lb_law_0 (a : Nat) : (cmN 23).E (lamSc (c_law a) (lm_law a) (lamScp (lx_law 0))) (lamBod (lx_law 0)) = ml_law_0 := by kernel_rfl
theorem la_law_0 (a : Nat) (ρ : Rho) : lamA (cmN 23) (c_law a) (lm_law a) ρ (.clo (cloFrom (cl_law a) (lamScp (lx_law 0)).names []) ⟨lamPar (lx_law 0), lamBod (lx_law 0), lamScp (lx_law 0), q_law⟩) = lamFR (ml_law_0 (ρ.map dropW)) := by
  show (if _ then _ else _) = _
  rw [if_pos ⟨rfl, rfl, by kernel_rfl, by kernel_rfl⟩, lb_law_0]
theorem s_law : FnScope ["script", "pen", "number", "row", "whole", "k", "free", "bad", "item"] ["script"] (defScope (top 60)) := ⟨rfl, rfl, rfl, by decide +kernel, rfl, by decide +kernel, by decide +kernel⟩
end K19
end FL
set_option Elab.async false
set_option linter.all false
set_option maxRecDepth 100000
set_option maxHeartbeats 0
namespace FL
namespace K19
open PySem PySem.Spec L2
open PyProof.Rows hiding St
theorem boot_isinstance : bootBuiltins "isinstance" = some (.builtin "isinstance") := by kernel_rfl
theorem boot_int : bootBuiltins "int" = some (.type "int") := by kernel_rfl
theorem boot_bool : bootBuiltins "bool" = some (.type "bool") := by kernel_rfl
theorem boot_tuple : bootBuiltins "tuple" = some (.type "tuple") := by kernel_rfl
theorem boot_list : bootBuiltins "list" = some (.type "list") := by kernel_rfl
theorem boot_len : bootBuiltins "len" = some (.builtin "len") := by kernel_rfl
theorem boot_enumerate : bootBuiltins "enumerate" = some (.type "enumerate") := by kernel_rfl
theorem boot_all : bootBuiltins "all" = some (.builtin "all") := by kernel_rfl
theorem boot_max : bootBuiltins "max" = some (.builtin "max") := by kernel_rfl
theorem boot_range : bootBuiltins "range" = some (.type "range") := by kernel_rfl
theorem boot_abs : bootBuiltins "abs" = some (.builtin "abs") := by kernel_rfl
theorem boot_repr : bootBuiltins "repr" = some (.builtin "repr") := by kernel_rfl
theorem boot_any : bootBuiltins "any" = some (.builtin "any") := by kernel_rfl
theorem all_mk {l : PySem.W.OpenLaw} {w : World} {K : PySem.W.Frag} {h : Heap} {mg : Str → Option Value} {fa : Addr} (X : K.In h) (G : h.Ns mainGlobals mg) (hfa : mg "law" = some (.ref fa))
    {f0 : Addr} {od0 an0 : Option Addr} {sl0 : Array (Option Value)} {oc0 kV0 dc0 pm0 cd0 ct0 : Value}
    {f1 : Addr} {od1 an1 : Option Addr} {sl1 : Array (Option Value)} {oc1 kV1 dc1 pm1 cd1 ct1 : Value}
    {f2 : Addr} {od2 an2 : Option Addr} {sl2 : Array (Option Value)} {oc2 kV2 dc2 pm2 cd2 ct2 : Value}
    {f3 : Addr} {od3 an3 : Option Addr} {sl3 : Array (Option Value)} {oc3 kV3 dc3 pm3 cd3 ct3 : Value}
    {f4 : Addr} {od4 an4 : Option Addr} {sl4 : Array (Option Value)} {oc4 kV4 dc4 pm4 cd4 ct4 : Value}
    {f5 : Addr} {od5 an5 : Option Addr} {sl5 : Array (Option Value)} {oc5 kV5 dc5 pm5 cd5 ct5 : Value}
    {f6 : Addr} {od6 an6 : Option Addr} {sl6 : Array (Option Value)} {oc6 kV6 dc6 pm6 cd6 ct6 : Value}
    {f7 : Addr} {od7 an7 : Option Addr} {sl7 : Array (Option Value)} {oc7 kV7 dc7 pm7 cd7 ct7 : Value}
    {f8 : Addr} {od8 an8 : Option Addr} {sl8 : Array (Option Value)} {oc8 kV8 dc8 pm8 cd8 ct8 : Value}
    {f9 : Addr} {od9 an9 : Option Addr} {sl9 : Array (Option Value)} {oc9 kV9 dc9 pm9 cd9 ct9 : Value}
    {f10 : Addr} {od10 an10 : Option Addr} {sl10 : Array (Option Value)} {oc10 kV10 dc10 pm10 cd10 ct10 : Value}
    {f11 : Addr} {od11 an11 : Option Addr} {sl11 : Array (Option Value)} {oc11 kV11 dc11 pm11 cd11 ct11 : Value}
    {f12 : Addr} {od12 an12 : Option Addr} {sl12 : Array (Option Value)} {oc12 kV12 dc12 pm12 cd12 ct12 : Value}
    {f13 : Addr} {od13 an13 : Option Addr} {sl13 : Array (Option Value)} {oc13 kV13 dc13 pm13 cd13 ct13 : Value}
    {f14 : Addr} {od14 an14 : Option Addr} {sl14 : Array (Option Value)} {oc14 kV14 dc14 pm14 cd14 ct14 : Value}
    {f15 : Addr} {od15 an15 : Option Addr} {sl15 : Array (Option Value)} {oc15 kV15 dc15 pm15 cd15 ct15 : Value}
    {f16 : Addr} {od16 an16 : Option Addr} {sl16 : Array (Option Value)} {oc16 kV16 dc16 pm16 cd16 ct16 : Value}
    {f17 : Addr} {od17 an17 : Option Addr} {sl17 : Array (Option Value)} {oc17 kV17 dc17 pm17 cd17 ct17 : Value}
    {f18 : Addr} {od18 an18 : Option Addr} {sl18 : Array (Option Value)} {oc18 kV18 dc18 pm18 cd18 ct18 : Value}
    {f19 : Addr} {od19 an19 : Option Addr} {sl19 : Array (Option Value)} {oc19 kV19 dc19 pm19 cd19 ct19 : Value}
    {f20 : Addr} {od20 an20 : Option Addr} {sl20 : Array (Option Value)} {oc20 kV20 dc20 pm20 cd20 ct20 : Value}
    {f21 : Addr} {od21 an21 : Option Addr} {sl21 : Array (Option Value)} {oc21 kV21 dc21 pm21 cd21 ct21 : Value}
    {f22 : Addr} {od22 an22 : Option Addr} {sl22 : Array (Option Value)} {oc22 kV22 dc22 pm22 cd22 ct22 : Value}
    {f23 : Addr} {od23 an23 : Option Addr} {sl23 : Array (Option Value)} {oc23 kV23 dc23 pm23 cd23 ct23 : Value}
    {f24 : Addr} {od24 an24 : Option Addr} {sl24 : Array (Option Value)} {oc24 kV24 dc24 pm24 cd24 ct24 : Value}
    {f25 : Addr} {od25 an25 : Option Addr} {sl25 : Array (Option Value)} {oc25 kV25 dc25 pm25 cd25 ct25 : Value}
    {f26 : Addr} {od26 an26 : Option Addr} {sl26 : Array (Option Value)} {oc26 kV26 dc26 pm26 cd26 ct26 : Value}
    {f27 : Addr} {od27 an27 : Option Addr} {sl27 : Array (Option Value)} {oc27 kV27 dc27 pm27 cd27 ct27 : Value}
    {f28 : Addr} {od28 an28 : Option Addr} {sl28 : Array (Option Value)} {oc28 kV28 dc28 pm28 cd28 ct28 : Value}
    {f29 : Addr} {od29 an29 : Option Addr} {sl29 : Array (Option Value)} {oc29 kV29 dc29 pm29 cd29 ct29 : Value}
    {f30 : Addr} {od30 an30 : Option Addr} {sl30 : Array (Option Value)} {oc30 kV30 dc30 pm30 cd30 ct30 : Value}
    {f31 : Addr} {od31 an31 : Option Addr} {sl31 : Array (Option Value)} {oc31 kV31 dc31 pm31 cd31 ct31 : Value}
    {f32 : Addr} {od32 an32 : Option Addr} {sl32 : Array (Option Value)} {oc32 kV32 dc32 pm32 cd32 ct32 : Value}
    {f33 : Addr} {od33 an33 : Option Addr} {sl33 : Array (Option Value)} {oc33 kV33 dc33 pm33 cd33 ct33 : Value}
    {f34 : Addr} {od34 an34 : Option Addr} {sl34 : Array (Option Value)} {oc34 kV34 dc34 pm34 cd34 ct34 : Value}
    {f35 : Addr} {od35 an35 : Option Addr} {sl35 : Array (Option Value)} {oc35 kV35 dc35 pm35 cd35 ct35 : Value}
    {f36 : Addr} {od36 an36 : Option Addr} {sl36 : Array (Option Value)} {oc36 kV36 dc36 pm36 cd36 ct36 : Value}
    {f37 : Addr} {od37 an37 : Option Addr} {sl37 : Array (Option Value)} {oc37 kV37 dc37 pm37 cd37 ct37 : Value}
    {f38 : Addr} {od38 an38 : Option Addr} {sl38 : Array (Option Value)} {oc38 kV38 dc38 pm38 cd38 ct38 : Value}
    {f39 : Addr} {od39 an39 : Option Addr} {sl39 : Array (Option Value)} {oc39 kV39 dc39 pm39 cd39 ct39 : Value}
    {f40 : Addr} {od40 an40 : Option Addr} {sl40 : Array (Option Value)} {oc40 kV40 dc40 pm40 ct40 : Value}
    {cdA PtA : Addr} {qe : Value} {qd : Option Addr} {qv : Array Value} {qs : Array (Option Value)}
    {B : Addr}
    {C0 fI0 nN0 : Addr} {nm0 qq0 : Str} {bs0 bm0 sb0 : List Value} {sn0 : List Str} {ab0 : Bool} {co0 : Option Bool} {dd0 : Option Addr} {ka0 kb0 kc0 kd0 ke0 : Option Value}
    {iod0 ian0 : Option Addr} {isl0 : Array (Option Value)} {ioc0 ikV0 idc0 ipm0 icd0 ict0 : Value}
    {C1 fI1 nN1 : Addr} {nm1 qq1 : Str} {bs1 bm1 sb1 : List Value} {sn1 : List Str} {ab1 : Bool} {co1 : Option Bool} {dd1 : Option Addr} {ka1 kb1 kc1 kd1 ke1 : Option Value}
    {iod1 ian1 : Option Addr} {isl1 : Array (Option Value)} {ioc1 ikV1 idc1 ipm1 icd1 ict1 : Value}
    {C2 fI2 nN2 : Addr} {nm2 qq2 : Str} {bs2 bm2 sb2 : List Value} {sn2 : List Str} {ab2 : Bool} {co2 : Option Bool} {dd2 : Option Addr} {ka2 kb2 kc2 kd2 ke2 : Option Value}
    {iod2 ian2 : Option Addr} {isl2 : Array (Option Value)} {ioc2 ikV2 idc2 ipm2 icd2 ict2 : Value}
    {C3 fI3 nN3 : Addr} {nm3 qq3 : Str} {bs3 bm3 sb3 : List Value} {sn3 : List Str} {ab3 : Bool} {co3 : Option Bool} {dd3 : Option Addr} {ka3 kb3 kc3 kd3 ke3 : Option Value}
    {iod3 ian3 : Option Addr} {isl3 : Array (Option Value)} {ioc3 ikV3 idc3 ipm3 icd3 ict3 : Value}
    {C4 fI4 nN4 : Addr} {nm4 qq4 : Str} {bs4 bm4 sb4 : List Value} {sn4 : List Str} {ab4 : Bool} {co4 : Option Bool} {dd4 : Option Addr} {ka4 kb4 kc4 kd4 ke4 : Option Value}
    {iod4 ian4 : Option Addr} {isl4 : Array (Option Value)} {ioc4 ikV4 idc4 ipm4 icd4 ict4 : Value}
    {v0 : Addr} {vd0 : Option Addr} {vn0 : Nat} {vs0 : Array (Option Value)} {t0_0 t0_1 : Tok}
    {v1 : Addr} {vd1 : Option Addr} {vn1 : Nat} {vs1 : Array (Option Value)} {t1_0 t1_1 : Tok}
    {t2 : Tok}
    (a0 : PySem.W.nsIn K mainGlobals "in_tuples" = some (some (.ref f1)))
    (a1 : PySem.W.nsIn K mainGlobals "is_whole" = some (some (.ref f0)))
    (a2 : PySem.W.nsIn K mainGlobals "is_pair" = some (some (.ref f3)))
    (a3 : PySem.W.nsIn K mainGlobals "lowest" = some (some (.ref f5)))
    (a4 : PySem.W.nsIn K mainGlobals "trimmed" = some (some (.ref f11)))
    (a5 : PySem.W.nsIn K mainGlobals "summed" = some (some (.ref f7)))
    (a6 : PySem.W.nsIn K mainGlobals "scaled" = some (some (.ref f9)))
    (a7 : PySem.W.nsIn K mainGlobals "told" = some (some (.ref f6)))
    (a8 : PySem.W.nsIn K mainGlobals "is_ratio" = some (some (.ref f4)))
    (a9 : PySem.W.nsIn K mainGlobals "row_product_maskrows" = some (some (.ref f12)))
    (a10 : PySem.W.nsIn K mainGlobals "row_passed" = some (some (.ref f13)))
    (a11 : PySem.W.nsIn K mainGlobals "at_by" = some (some (.ref f16)))
    (a12 : PySem.W.nsIn K mainGlobals "ratio_passed" = some (some (.ref f14)))
    (a13 : PySem.W.nsIn K mainGlobals "lessened" = some (some (.ref f8)))
    (a14 : PySem.W.nsIn K mainGlobals "parted" = some (some (.ref f10)))
    (a15 : PySem.W.nsIn K mainGlobals "shared_by" = some (some (.ref f20)))
    (a16 : PySem.W.nsIn K mainGlobals "stretched_by" = some (some (.ref f15)))
    (a17 : PySem.W.nsIn K mainGlobals "ring_by" = some (some (.ref f21)))
    (a18 : PySem.W.nsIn K mainGlobals "need_between" = some (some (.ref f2)))
    (a19 : PySem.W.nsIn K mainGlobals "_law_draw" = some (some (.ref f24)))
    (a20 : PySem.W.nsIn K mainGlobals "_law_gcd" = some (some (.ref f27)))
    (a21 : PySem.W.nsIn K mainGlobals "_law_q" = some (some (.ref f28)))
    (a22 : PySem.W.nsIn K mainGlobals "_law_is_int" = some (some (.ref f26)))
    (a23 : PySem.W.nsIn K mainGlobals "_law_fault" = some (some (.ref f33)))
    (a24 : PySem.W.nsIn K mainGlobals "_law_trim" = some (some (.ref f35)))
    (a25 : PySem.W.nsIn K mainGlobals "_law_minus" = some (some (.ref f30)))
    (a26 : PySem.W.nsIn K mainGlobals "_law_times" = some (some (.ref f29)))
    (a27 : PySem.W.nsIn K mainGlobals "_law_share" = some (some (.ref f31)))
    (a28 : PySem.W.nsIn K mainGlobals "_law_is_told" = some (some (.ref f32)))
    (a29 : PySem.W.nsIn K mainGlobals "_law_row_parted" = some (some (.ref f36)))
    (a30 : PySem.W.nsIn K mainGlobals "_law_are_due" = some (some (.ref f34)))
    (a31 : PySem.W.nsIn K mainGlobals "_law_pick" = some (some (.ref f25)))
    (a32 : PySem.W.nsIn K mainGlobals "row_at" = some (some (.ref f18)))
    (a33 : PySem.W.nsIn K mainGlobals "_law_prime_of" = some (some (.ref f39)))
    (a34 : PySem.W.nsIn K mainGlobals "back_row" = some (some (.ref f19)))
    (a35 : PySem.W.nsIn K mainGlobals "row_product_polyrows" = some (some (.ref f17)))
    (a36 : PySem.W.nsIn K mainGlobals "ring_row" = some (some (.ref f22)))
    (a37 : PySem.W.nsIn K mainGlobals "_law_h_ring" = some (some (.ref f38)))
    (a38 : PySem.W.nsIn K mainGlobals "_law_h_is_row" = some (some (.ref f37)))
    (a39 : PySem.W.nsIn K mainGlobals "_law_pen" = some (some (.ref f23)))
    (a40 : PySem.W.nsIn K mainGlobals "law" = some (some (.ref f40)))
    (g0 : PySem.W.nsIn K mainGlobals "NONE" = some (some (.ref v0)))
    (h0 : K.lookup v0 = some ⟨.type "tuple", vd0, .seq #[.int (0) t0_0, .int (1) t0_1] vn0, vs0⟩)
    (g1 : PySem.W.nsIn K mainGlobals "ONE" = some (some (.ref v1)))
    (h1 : K.lookup v1 = some ⟨.type "tuple", vd1, .seq #[.int (1) t1_0, .int (1) t1_1] vn1, vs1⟩)
    (g2 : PySem.W.nsIn K mainGlobals "MOST_RING" = some (some (.int (60) t2)))
    (z0 : PySem.W.nsIn K mainGlobals "isinstance" = some none)
    (z1 : PySem.W.nsIn K mainGlobals "int" = some none)
    (z2 : PySem.W.nsIn K mainGlobals "bool" = some none)
    (z3 : PySem.W.nsIn K mainGlobals "tuple" = some none)
    (z4 : PySem.W.nsIn K mainGlobals "list" = some none)
    (z5 : PySem.W.nsIn K mainGlobals "len" = some none)
    (z6 : PySem.W.nsIn K mainGlobals "enumerate" = some none)
    (z7 : PySem.W.nsIn K mainGlobals "all" = some none)
    (z8 : PySem.W.nsIn K mainGlobals "max" = some none)
    (z9 : PySem.W.nsIn K mainGlobals "range" = some none)
    (z10 : PySem.W.nsIn K mainGlobals "abs" = some none)
    (z11 : PySem.W.nsIn K mainGlobals "repr" = some none)
    (z12 : PySem.W.nsIn K mainGlobals "any" = some none)
    (w0 : PySem.W.nsIn K mainGlobals "gcd" = some (some (.builtin "math.gcd")))
    (l0 : K.lookup f0 = some ⟨oc0, od0, .func (PySem.W.fnOf "is_whole" "is_whole" (defArgs (top 9)) (defBody (top 9)) (defScope (top 9)) .none kV0 dc0 pm0 an0 cd0 ct0), sl0⟩)
    (c0 : PySem.W.codeIn K cd0 "is_whole" = true)
    (k0 : PySem.W.keepIn K (.ref f0) = true)
    (l1 : K.lookup f1 = some ⟨oc1, od1, .func (PySem.W.fnOf "in_tuples" "in_tuples" (defArgs (top 10)) (defBody (top 10)) (defScope (top 10)) .none kV1 dc1 pm1 an1 cd1 ct1), sl1⟩)
    (c1 : PySem.W.codeIn K cd1 "in_tuples" = true)
    (k1 : PySem.W.keepIn K (.ref f1) = true)
    (l2 : K.lookup f2 = some ⟨oc2, od2, .func (PySem.W.fnOf "need_between" "need_between" (defArgs (top 11)) (defBody (top 11)) (defScope (top 11)) .none kV2 dc2 pm2 an2 cd2 ct2), sl2⟩)
    (c2 : PySem.W.codeIn K cd2 "need_between" = true)
    (k2 : PySem.W.keepIn K (.ref f2) = true)
    (l3 : K.lookup f3 = some ⟨oc3, od3, .func (PySem.W.fnOf "is_pair" "is_pair" (defArgs (top 13)) (defBody (top 13)) (defScope (top 13)) .none kV3 dc3 pm3 an3 cd3 ct3), sl3⟩)
    (c3 : PySem.W.codeIn K cd3 "is_pair" = true)
    (k3 : PySem.W.keepIn K (.ref f3) = true)
    (l4 : K.lookup f4 = some ⟨oc4, od4, .func (PySem.W.fnOf "is_ratio" "is_ratio" (defArgs (top 14)) (defBody (top 14)) (defScope (top 14)) .none kV4 dc4 pm4 an4 cd4 ct4), sl4⟩)
    (c4 : PySem.W.codeIn K cd4 "is_ratio" = true)
    (k4 : PySem.W.keepIn K (.ref f4) = true)
    (l5 : K.lookup f5 = some ⟨oc5, od5, .func (PySem.W.fnOf "lowest" "lowest" (defArgs (top 15)) (defBody (top 15)) (defScope (top 15)) .none kV5 dc5 pm5 an5 cd5 ct5), sl5⟩)
    (c5 : PySem.W.codeIn K cd5 "lowest" = true)
    (k5 : PySem.W.keepIn K (.ref f5) = true)
    (l6 : K.lookup f6 = some ⟨oc6, od6, .func (PySem.W.fnOf "told" "told" (defArgs (top 16)) (defBody (top 16)) (defScope (top 16)) .none kV6 dc6 pm6 an6 cd6 ct6), sl6⟩)
    (c6 : PySem.W.codeIn K cd6 "told" = true)
    (k6 : PySem.W.keepIn K (.ref f6) = true)
    (l7 : K.lookup f7 = some ⟨oc7, od7, .func (PySem.W.fnOf "summed" "summed" (defArgs (top 17)) (defBody (top 17)) (defScope (top 17)) .none kV7 dc7 pm7 an7 cd7 ct7), sl7⟩)
    (c7 : PySem.W.codeIn K cd7 "summed" = true)
    (k7 : PySem.W.keepIn K (.ref f7) = true)
    (l8 : K.lookup f8 = some ⟨oc8, od8, .func (PySem.W.fnOf "lessened" "lessened" (defArgs (top 18)) (defBody (top 18)) (defScope (top 18)) .none kV8 dc8 pm8 an8 cd8 ct8), sl8⟩)
    (c8 : PySem.W.codeIn K cd8 "lessened" = true)
    (k8 : PySem.W.keepIn K (.ref f8) = true)
    (l9 : K.lookup f9 = some ⟨oc9, od9, .func (PySem.W.fnOf "scaled" "scaled" (defArgs (top 19)) (defBody (top 19)) (defScope (top 19)) .none kV9 dc9 pm9 an9 cd9 ct9), sl9⟩)
    (c9 : PySem.W.codeIn K cd9 "scaled" = true)
    (k9 : PySem.W.keepIn K (.ref f9) = true)
    (l10 : K.lookup f10 = some ⟨oc10, od10, .func (PySem.W.fnOf "parted" "parted" (defArgs (top 20)) (defBody (top 20)) (defScope (top 20)) .none kV10 dc10 pm10 an10 cd10 ct10), sl10⟩)
    (c10 : PySem.W.codeIn K cd10 "parted" = true)
    (k10 : PySem.W.keepIn K (.ref f10) = true)
    (l11 : K.lookup f11 = some ⟨oc11, od11, .func (PySem.W.fnOf "trimmed" "trimmed" (defArgs (top 24)) (defBody (top 24)) (defScope (top 24)) .none kV11 dc11 pm11 an11 cd11 ct11), sl11⟩)
    (c11 : PySem.W.codeIn K cd11 "trimmed" = true)
    (k11 : PySem.W.keepIn K (.ref f11) = true)
    (l12 : K.lookup f12 = some ⟨oc12, od12, .func (PySem.W.fnOf "row_product" "row_product" (defArgs (top 25)) (defBody (top 25)) (defScope (top 25)) .none kV12 dc12 pm12 an12 cd12 ct12), sl12⟩)
    (c12 : PySem.W.codeIn K cd12 "row_product" = true)
    (k12 : PySem.W.keepIn K (.ref f12) = true)
    (l13 : K.lookup f13 = some ⟨oc13, od13, .func (PySem.W.fnOf "row_passed" "row_passed" (defArgs (top 28)) (defBody (top 28)) (defScope (top 28)) .none kV13 dc13 pm13 an13 cd13 ct13), sl13⟩)
    (c13 : PySem.W.codeIn K cd13 "row_passed" = true)
    (k13 : PySem.W.keepIn K (.ref f13) = true)
    (l14 : K.lookup f14 = some ⟨oc14, od14, .func (PySem.W.fnOf "ratio_passed" "ratio_passed" (defArgs (top 29)) (defBody (top 29)) (defScope (top 29)) .none kV14 dc14 pm14 an14 cd14 ct14), sl14⟩)
    (c14 : PySem.W.codeIn K cd14 "ratio_passed" = true)
    (k14 : PySem.W.keepIn K (.ref f14) = true)
    (l15 : K.lookup f15 = some ⟨oc15, od15, .func (PySem.W.fnOf "stretched_by" "stretched_by" (defArgs (top 30)) (defBody (top 30)) (defScope (top 30)) .none kV15 dc15 pm15 an15 cd15 ct15), sl15⟩)
    (c15 : PySem.W.codeIn K cd15 "stretched_by" = true)
    (k15 : PySem.W.keepIn K (.ref f15) = true)
    (l16 : K.lookup f16 = some ⟨oc16, od16, .func (PySem.W.fnOf "at_by" "at_by" (defArgs (top 31)) (defBody (top 31)) (defScope (top 31)) .none kV16 dc16 pm16 an16 cd16 ct16), sl16⟩)
    (c16 : PySem.W.codeIn K cd16 "at_by" = true)
    (k16 : PySem.W.keepIn K (.ref f16) = true)
    (l17 : K.lookup f17 = some ⟨oc17, od17, .func (PySem.W.fnOf "row_product" "row_product" (defArgs (top 32)) (defBody (top 32)) (defScope (top 32)) .none kV17 dc17 pm17 an17 cd17 ct17), sl17⟩)
    (c17 : PySem.W.codeIn K cd17 "row_product" = true)
    (k17 : PySem.W.keepIn K (.ref f17) = true)
    (l18 : K.lookup f18 = some ⟨oc18, od18, .func (PySem.W.fnOf "row_at" "row_at" (defArgs (top 34)) (defBody (top 34)) (defScope (top 34)) .none kV18 dc18 pm18 an18 cd18 ct18), sl18⟩)
    (c18 : PySem.W.codeIn K cd18 "row_at" = true)
    (k18 : PySem.W.keepIn K (.ref f18) = true)
    (l19 : K.lookup f19 = some ⟨oc19, od19, .func (PySem.W.fnOf "back_row" "back_row" (defArgs (top 35)) (defBody (top 35)) (defScope (top 35)) .none kV19 dc19 pm19 an19 cd19 ct19), sl19⟩)
    (c19 : PySem.W.codeIn K cd19 "back_row" = true)
    (k19 : PySem.W.keepIn K (.ref f19) = true)
    (l20 : K.lookup f20 = some ⟨oc20, od20, .func (PySem.W.fnOf "shared_by" "shared_by" (defArgs (top 37)) (defBody (top 37)) (defScope (top 37)) .none kV20 dc20 pm20 an20 cd20 ct20), sl20⟩)
    (c20 : PySem.W.codeIn K cd20 "shared_by" = true)
    (k20 : PySem.W.keepIn K (.ref f20) = true)
    (l21 : K.lookup f21 = some ⟨oc21, od21, .func (PySem.W.fnOf "ring_by" "ring_by" (defArgs (top 40)) (defBody (top 40)) (defScope (top 40)) .none kV21 dc21 pm21 an21 cd21 ct21), sl21⟩)
    (c21 : PySem.W.codeIn K cd21 "ring_by" = true)
    (k21 : PySem.W.keepIn K (.ref f21) = true)
    (l22 : K.lookup f22 = some ⟨oc22, od22, .func (PySem.W.fnOf "ring_row" "ring_row" (defArgs (top 41)) (defBody (top 41)) (defScope (top 41)) .none kV22 dc22 pm22 an22 cd22 ct22), sl22⟩)
    (c22 : PySem.W.codeIn K cd22 "ring_row" = true)
    (k22 : PySem.W.keepIn K (.ref f22) = true)
    (l23 : K.lookup f23 = some ⟨oc23, od23, .func (PySem.W.fnOf "_law_pen" "_law_pen" (defArgs (top 43)) (defBody (top 43)) (defScope (top 43)) .none kV23 dc23 pm23 an23 cd23 ct23), sl23⟩)
    (c23 : PySem.W.codeIn K cd23 "_law_pen" = true)
    (k23 : PySem.W.keepIn K (.ref f23) = true)
    (l24 : K.lookup f24 = some ⟨oc24, od24, .func (PySem.W.fnOf "_law_draw" "_law_draw" (defArgs (top 44)) (defBody (top 44)) (defScope (top 44)) .none kV24 dc24 pm24 an24 cd24 ct24), sl24⟩)
    (c24 : PySem.W.codeIn K cd24 "_law_draw" = true)
    (k24 : PySem.W.keepIn K (.ref f24) = true)
    (l25 : K.lookup f25 = some ⟨oc25, od25, .func (PySem.W.fnOf "_law_pick" "_law_pick" (defArgs (top 45)) (defBody (top 45)) (defScope (top 45)) .none kV25 dc25 pm25 an25 cd25 ct25), sl25⟩)
    (c25 : PySem.W.codeIn K cd25 "_law_pick" = true)
    (k25 : PySem.W.keepIn K (.ref f25) = true)
    (l26 : K.lookup f26 = some ⟨oc26, od26, .func (PySem.W.fnOf "_law_is_int" "_law_is_int" (defArgs (top 46)) (defBody (top 46)) (defScope (top 46)) .none kV26 dc26 pm26 an26 cd26 ct26), sl26⟩)
    (c26 : PySem.W.codeIn K cd26 "_law_is_int" = true)
    (k26 : PySem.W.keepIn K (.ref f26) = true)
    (l27 : K.lookup f27 = some ⟨oc27, od27, .func (PySem.W.fnOf "_law_gcd" "_law_gcd" (defArgs (top 47)) (defBody (top 47)) (defScope (top 47)) .none kV27 dc27 pm27 an27 cd27 ct27), sl27⟩)
    (c27 : PySem.W.codeIn K cd27 "_law_gcd" = true)
    (k27 : PySem.W.keepIn K (.ref f27) = true)
    (l28 : K.lookup f28 = some ⟨oc28, od28, .func (PySem.W.fnOf "_law_q" "_law_q" (defArgs (top 48)) (defBody (top 48)) (defScope (top 48)) .none kV28 dc28 pm28 an28 cd28 ct28), sl28⟩)
    (c28 : PySem.W.codeIn K cd28 "_law_q" = true)
    (k28 : PySem.W.keepIn K (.ref f28) = true)
    (l29 : K.lookup f29 = some ⟨oc29, od29, .func (PySem.W.fnOf "_law_times" "_law_times" (defArgs (top 49)) (defBody (top 49)) (defScope (top 49)) .none kV29 dc29 pm29 an29 cd29 ct29), sl29⟩)
    (c29 : PySem.W.codeIn K cd29 "_law_times" = true)
    (k29 : PySem.W.keepIn K (.ref f29) = true)
    (l30 : K.lookup f30 = some ⟨oc30, od30, .func (PySem.W.fnOf "_law_minus" "_law_minus" (defArgs (top 50)) (defBody (top 50)) (defScope (top 50)) .none kV30 dc30 pm30 an30 cd30 ct30), sl30⟩)
    (c30 : PySem.W.codeIn K cd30 "_law_minus" = true)
    (k30 : PySem.W.keepIn K (.ref f30) = true)
    (l31 : K.lookup f31 = some ⟨oc31, od31, .func (PySem.W.fnOf "_law_share" "_law_share" (defArgs (top 51)) (defBody (top 51)) (defScope (top 51)) .none kV31 dc31 pm31 an31 cd31 ct31), sl31⟩)
    (c31 : PySem.W.codeIn K cd31 "_law_share" = true)
    (k31 : PySem.W.keepIn K (.ref f31) = true)
    (l32 : K.lookup f32 = some ⟨oc32, od32, .func (PySem.W.fnOf "_law_is_told" "_law_is_told" (defArgs (top 52)) (defBody (top 52)) (defScope (top 52)) .none kV32 dc32 pm32 an32 cd32 ct32), sl32⟩)
    (c32 : PySem.W.codeIn K cd32 "_law_is_told" = true)
    (k32 : PySem.W.keepIn K (.ref f32) = true)
    (l33 : K.lookup f33 = some ⟨oc33, od33, .func (PySem.W.fnOf "_law_fault" "_law_fault" (defArgs (top 53)) (defBody (top 53)) (defScope (top 53)) .none kV33 dc33 pm33 an33 cd33 ct33), sl33⟩)
    (c33 : PySem.W.codeIn K cd33 "_law_fault" = true)
    (k33 : PySem.W.keepIn K (.ref f33) = true)
    (l34 : K.lookup f34 = some ⟨oc34, od34, .func (PySem.W.fnOf "_law_are_due" "_law_are_due" (defArgs (top 54)) (defBody (top 54)) (defScope (top 54)) .none kV34 dc34 pm34 an34 cd34 ct34), sl34⟩)
    (c34 : PySem.W.codeIn K cd34 "_law_are_due" = true)
    (k34 : PySem.W.keepIn K (.ref f34) = true)
    (l35 : K.lookup f35 = some ⟨oc35, od35, .func (PySem.W.fnOf "_law_trim" "_law_trim" (defArgs (top 55)) (defBody (top 55)) (defScope (top 55)) .none kV35 dc35 pm35 an35 cd35 ct35), sl35⟩)
    (c35 : PySem.W.codeIn K cd35 "_law_trim" = true)
    (k35 : PySem.W.keepIn K (.ref f35) = true)
    (l36 : K.lookup f36 = some ⟨oc36, od36, .func (PySem.W.fnOf "_law_row_parted" "_law_row_parted" (defArgs (top 56)) (defBody (top 56)) (defScope (top 56)) .none kV36 dc36 pm36 an36 cd36 ct36), sl36⟩)
    (c36 : PySem.W.codeIn K cd36 "_law_row_parted" = true)
    (k36 : PySem.W.keepIn K (.ref f36) = true)
    (l37 : K.lookup f37 = some ⟨oc37, od37, .func (PySem.W.fnOf "_law_h_is_row" "_law_h_is_row" (defArgs (top 57)) (defBody (top 57)) (defScope (top 57)) .none kV37 dc37 pm37 an37 cd37 ct37), sl37⟩)
    (c37 : PySem.W.codeIn K cd37 "_law_h_is_row" = true)
    (k37 : PySem.W.keepIn K (.ref f37) = true)
    (l38 : K.lookup f38 = some ⟨oc38, od38, .func (PySem.W.fnOf "_law_h_ring" "_law_h_ring" (defArgs (top 58)) (defBody (top 58)) (defScope (top 58)) .none kV38 dc38 pm38 an38 cd38 ct38), sl38⟩)
    (c38 : PySem.W.codeIn K cd38 "_law_h_ring" = true)
    (k38 : PySem.W.keepIn K (.ref f38) = true)
    (l39 : K.lookup f39 = some ⟨oc39, od39, .func (PySem.W.fnOf "_law_prime_of" "_law_prime_of" (defArgs (top 59)) (defBody (top 59)) (defScope (top 59)) .none kV39 dc39 pm39 an39 cd39 ct39), sl39⟩)
    (c39 : PySem.W.codeIn K cd39 "_law_prime_of" = true)
    (k39 : PySem.W.keepIn K (.ref f39) = true)
    (l40 : K.lookup f40 = some ⟨oc40, od40, .func (PySem.W.fnOf "law" "law" (defArgs (top 60)) (defBody (top 60)) (defScope (top 60)) .none kV40 dc40 pm40 an40 (.ref cdA) ct40), sl40⟩)
    (c40 : PySem.W.codeIn K (.ref cdA) "law" = true)
    (k40 : PySem.W.keepIn K (.ref f40) = true)
    (qa : K.lookup cdA = some ⟨qe, qd, .fields qv, qs⟩)
    (qb : qv[11]? = some (.ref PtA))
    (qc : K.lookup PtA = none)
    (aB : PySem.W.nsIn K mainGlobals "HalfError" = some (some (.ref B)))
    (oB : PySem.W.specialIn K (.ref B) "__getattribute__" = some (some (.builtin "type.__getattribute__")))
    (rB : PySem.W.readsIn K B (.type "type") = true)
    (fB : PySem.W.findCls K (.ref B) (.type "type") "__init__" = some (.val (.builtin "ValueError.__init__")))
    (aC0 : PySem.W.nsIn K mainGlobals "BadNumber" = some (some (.ref C0)))
    (xC0 : K.lookup C0 = some (excClassObj nm0 qq0 C0 nN0 bs0 bm0 true sn0 sb0 ab0 co0 dd0 ka0 kb0 kc0 kd0 ke0 "ValueError.__new__"))
    (yC0 : PySem.HandSPX.refsVE bm0 = true)
    (sC0 : PySem.W.findIn K (.ref C0) "__setattr__" = some (some (.builtin "object.__setattr__")))
    (eC0 : PySem.W.subIn K (.ref C0) (.type "BaseException") = some true)
    (tC0 : PySem.W.typeIn K (.ref C0) = some (.type "type"))
    (kC0 : PySem.W.keepIn K (.ref C0) = true)
    (iC0 : PySem.W.findIn K (.ref C0) "__init__" = some (some (.ref fI0)))
    (uC0 : PySem.W.typeIn K (.ref fI0) = some (.type "function"))
    (gC0 : PySem.W.findIn K (.ref C0) "__getattribute__" = some (some (.builtin "BaseException.__getattribute__")))
    (hC0 : PySem.W.findIn K (.ref C0) "__getattr__" = some none)
    (dC0 : PySem.W.hasDictIn K C0 = true)
    (nC0_0 : PySem.W.findIn K (.ref C0) "what" = some none)
    (nC0_1 : PySem.W.findIn K (.ref C0) "number" = some none)
    (lC0 : K.lookup fI0 = some ⟨ioc0, iod0, .func (PySem.W.fnOf "__init__" "BadNumber.__init__" (defArgs (ctop 3 0)) (defBody (ctop 3 0)) (defScope (ctop 3 0)) .none ikV0 idc0 ipm0 ian0 icd0 ict0), isl0⟩)
    (cC0 : PySem.W.codeIn K icd0 "BadNumber.__init__" = true)
    (jC0 : PySem.W.keepIn K (.ref fI0) = true)
    (aC1 : PySem.W.nsIn K mainGlobals "BadText" = some (some (.ref C1)))
    (xC1 : K.lookup C1 = some (excClassObj nm1 qq1 C1 nN1 bs1 bm1 true sn1 sb1 ab1 co1 dd1 ka1 kb1 kc1 kd1 ke1 "ValueError.__new__"))
    (yC1 : PySem.HandSPX.refsVE bm1 = true)
    (sC1 : PySem.W.findIn K (.ref C1) "__setattr__" = some (some (.builtin "object.__setattr__")))
    (eC1 : PySem.W.subIn K (.ref C1) (.type "BaseException") = some true)
    (tC1 : PySem.W.typeIn K (.ref C1) = some (.type "type"))
    (kC1 : PySem.W.keepIn K (.ref C1) = true)
    (iC1 : PySem.W.findIn K (.ref C1) "__init__" = some (some (.ref fI1)))
    (uC1 : PySem.W.typeIn K (.ref fI1) = some (.type "function"))
    (gC1 : PySem.W.findIn K (.ref C1) "__getattribute__" = some (some (.builtin "BaseException.__getattribute__")))
    (hC1 : PySem.W.findIn K (.ref C1) "__getattr__" = some none)
    (dC1 : PySem.W.hasDictIn K C1 = true)
    (nC1_0 : PySem.W.findIn K (.ref C1) "line" = some none)
    (nC1_1 : PySem.W.findIn K (.ref C1) "column" = some none)
    (lC1 : K.lookup fI1 = some ⟨ioc1, iod1, .func (PySem.W.fnOf "__init__" "BadText.__init__" (defArgs (ctop 4 0)) (defBody (ctop 4 0)) (defScope (ctop 4 0)) .none ikV1 idc1 ipm1 ian1 icd1 ict1), isl1⟩)
    (cC1 : PySem.W.codeIn K icd1 "BadText.__init__" = true)
    (jC1 : PySem.W.keepIn K (.ref fI1) = true)
    (aC2 : PySem.W.nsIn K mainGlobals "BadRow" = some (some (.ref C2)))
    (xC2 : K.lookup C2 = some (excClassObj nm2 qq2 C2 nN2 bs2 bm2 true sn2 sb2 ab2 co2 dd2 ka2 kb2 kc2 kd2 ke2 "ValueError.__new__"))
    (yC2 : PySem.HandSPX.refsVE bm2 = true)
    (sC2 : PySem.W.findIn K (.ref C2) "__setattr__" = some (some (.builtin "object.__setattr__")))
    (eC2 : PySem.W.subIn K (.ref C2) (.type "BaseException") = some true)
    (tC2 : PySem.W.typeIn K (.ref C2) = some (.type "type"))
    (kC2 : PySem.W.keepIn K (.ref C2) = true)
    (iC2 : PySem.W.findIn K (.ref C2) "__init__" = some (some (.ref fI2)))
    (uC2 : PySem.W.typeIn K (.ref fI2) = some (.type "function"))
    (gC2 : PySem.W.findIn K (.ref C2) "__getattribute__" = some (some (.builtin "BaseException.__getattribute__")))
    (hC2 : PySem.W.findIn K (.ref C2) "__getattr__" = some none)
    (dC2 : PySem.W.hasDictIn K C2 = true)
    (nC2_0 : PySem.W.findIn K (.ref C2) "row" = some none)
    (lC2 : K.lookup fI2 = some ⟨ioc2, iod2, .func (PySem.W.fnOf "__init__" "BadRow.__init__" (defArgs (ctop 5 0)) (defBody (ctop 5 0)) (defScope (ctop 5 0)) .none ikV2 idc2 ipm2 ian2 icd2 ict2), isl2⟩)
    (cC2 : PySem.W.codeIn K icd2 "BadRow.__init__" = true)
    (jC2 : PySem.W.keepIn K (.ref fI2) = true)
    (aC3 : PySem.W.nsIn K mainGlobals "Unlike" = some (some (.ref C3)))
    (xC3 : K.lookup C3 = some (excClassObj nm3 qq3 C3 nN3 bs3 bm3 true sn3 sb3 ab3 co3 dd3 ka3 kb3 kc3 kd3 ke3 "ValueError.__new__"))
    (yC3 : PySem.HandSPX.refsVE bm3 = true)
    (sC3 : PySem.W.findIn K (.ref C3) "__setattr__" = some (some (.builtin "object.__setattr__")))
    (eC3 : PySem.W.subIn K (.ref C3) (.type "BaseException") = some true)
    (tC3 : PySem.W.typeIn K (.ref C3) = some (.type "type"))
    (kC3 : PySem.W.keepIn K (.ref C3) = true)
    (iC3 : PySem.W.findIn K (.ref C3) "__init__" = some (some (.ref fI3)))
    (uC3 : PySem.W.typeIn K (.ref fI3) = some (.type "function"))
    (gC3 : PySem.W.findIn K (.ref C3) "__getattribute__" = some (some (.builtin "BaseException.__getattribute__")))
    (hC3 : PySem.W.findIn K (.ref C3) "__getattr__" = some none)
    (dC3 : PySem.W.hasDictIn K C3 = true)
    (nC3_0 : PySem.W.findIn K (.ref C3) "what" = some none)
    (lC3 : K.lookup fI3 = some ⟨ioc3, iod3, .func (PySem.W.fnOf "__init__" "Unlike.__init__" (defArgs (ctop 6 0)) (defBody (ctop 6 0)) (defScope (ctop 6 0)) .none ikV3 idc3 ipm3 ian3 icd3 ict3), isl3⟩)
    (cC3 : PySem.W.codeIn K icd3 "Unlike.__init__" = true)
    (jC3 : PySem.W.keepIn K (.ref fI3) = true)
    (aC4 : PySem.W.nsIn K mainGlobals "TooMany" = some (some (.ref C4)))
    (xC4 : K.lookup C4 = some (excClassObj nm4 qq4 C4 nN4 bs4 bm4 true sn4 sb4 ab4 co4 dd4 ka4 kb4 kc4 kd4 ke4 "ValueError.__new__"))
    (yC4 : PySem.HandSPX.refsVE bm4 = true)
    (sC4 : PySem.W.findIn K (.ref C4) "__setattr__" = some (some (.builtin "object.__setattr__")))
    (eC4 : PySem.W.subIn K (.ref C4) (.type "BaseException") = some true)
    (tC4 : PySem.W.typeIn K (.ref C4) = some (.type "type"))
    (kC4 : PySem.W.keepIn K (.ref C4) = true)
    (iC4 : PySem.W.findIn K (.ref C4) "__init__" = some (some (.ref fI4)))
    (uC4 : PySem.W.typeIn K (.ref fI4) = some (.type "function"))
    (gC4 : PySem.W.findIn K (.ref C4) "__getattribute__" = some (some (.builtin "BaseException.__getattribute__")))
    (hC4 : PySem.W.findIn K (.ref C4) "__getattr__" = some none)
    (dC4 : PySem.W.hasDictIn K C4 = true)
    (nC4_0 : PySem.W.findIn K (.ref C4) "what" = some none)
    (nC4_1 : PySem.W.findIn K (.ref C4) "many" = some none)
    (nC4_2 : PySem.W.findIn K (.ref C4) "limit" = some none)
    (lC4 : K.lookup fI4 = some ⟨ioc4, iod4, .func (PySem.W.fnOf "__init__" "TooMany.__init__" (defArgs (ctop 7 0)) (defBody (ctop 7 0)) (defScope (ctop 7 0)) .none ikV4 idc4 ipm4 ian4 icd4 ict4), isl4⟩)
    (cC4 : PySem.W.codeIn K icd4 "TooMany.__init__" = true)
    (jC4 : PySem.W.keepIn K (.ref fI4) = true)
    (p0_0 : PySem.W.subIn K (.ref C0) (.ref C0) = some true)
    (p0_1 : PySem.W.subIn K (.ref C0) (.ref C1) = some false)
    (p0_2 : PySem.W.subIn K (.ref C0) (.ref C2) = some false)
    (p0_3 : PySem.W.subIn K (.ref C0) (.ref C3) = some false)
    (p0_4 : PySem.W.subIn K (.ref C0) (.ref C4) = some false)
    (p1_0 : PySem.W.subIn K (.ref C1) (.ref C0) = some false)
    (p1_1 : PySem.W.subIn K (.ref C1) (.ref C1) = some true)
    (p1_2 : PySem.W.subIn K (.ref C1) (.ref C2) = some false)
    (p1_3 : PySem.W.subIn K (.ref C1) (.ref C3) = some false)
    (p1_4 : PySem.W.subIn K (.ref C1) (.ref C4) = some false)
    (p2_0 : PySem.W.subIn K (.ref C2) (.ref C0) = some false)
    (p2_1 : PySem.W.subIn K (.ref C2) (.ref C1) = some false)
    (p2_2 : PySem.W.subIn K (.ref C2) (.ref C2) = some true)
    (p2_3 : PySem.W.subIn K (.ref C2) (.ref C3) = some false)
    (p2_4 : PySem.W.subIn K (.ref C2) (.ref C4) = some false)
    (p3_0 : PySem.W.subIn K (.ref C3) (.ref C0) = some false)
    (p3_1 : PySem.W.subIn K (.ref C3) (.ref C1) = some false)
    (p3_2 : PySem.W.subIn K (.ref C3) (.ref C2) = some false)
    (p3_3 : PySem.W.subIn K (.ref C3) (.ref C3) = some true)
    (p3_4 : PySem.W.subIn K (.ref C3) (.ref C4) = some false)
    (p4_0 : PySem.W.subIn K (.ref C4) (.ref C0) = some false)
    (p4_1 : PySem.W.subIn K (.ref C4) (.ref C1) = some false)
    (p4_2 : PySem.W.subIn K (.ref C4) (.ref C2) = some false)
    (p4_3 : PySem.W.subIn K (.ref C4) (.ref C3) = some false)
    (p4_4 : PySem.W.subIn K (.ref C4) (.ref C4) = some true)
    : ∃ (fd : FuncData) (cd Pt : Addr) (qn : Str) (o oc : Obj) (vs : Array Value), K.lookup fa = some o ∧ o.data = .func fd ∧ fd.code = .ref cd ∧ K.lookup cd = some oc ∧ oc.data = .fields vs ∧ vs[11]? = some (.ref Pt) ∧ K.lookup Pt = none ∧ (∀ (s : Shared) (u : Value), BindsTo s fd ⟨[u], []⟩ [("script", u)]) ∧ ∀ base : Heap, K.In base → base.Ns mainGlobals mg → LamX.TabB base mg cd Pt → FnX l.prog w K mg base (fun t => t = [(Pt, qn)]) 43 fa fd ["script"] (fun a _ => F_law a) := by
  have ea : f40 = fa := by
    have e := (PySem.W.mg_of X G a40).symm.trans hfa
    cases e
    rfl
  subst ea
  have U0 := fun_mk (st := top 9) l0 c0 k0
  have b0 := U0.binds (ps := ["value"]) fun _ _ _ _ _ _ us hl => match us, hl with | [_], _ => rfl
  have U1 := fun_mk (st := top 10) l1 c1 k1
  have b1 := U1.binds (ps := ["value"]) fun _ _ _ _ _ _ us hl => match us, hl with | [_], _ => rfl
  have U2 := fun_mk (st := top 11) l2 c2 k2
  have b2 := U2.binds (ps := ["what", "number", "low", "high"]) fun _ _ _ _ _ _ us hl => match us, hl with | [_, _, _, _], _ => rfl
  have U3 := fun_mk (st := top 13) l3 c3 k3
  have b3 := U3.binds (ps := ["value"]) fun _ _ _ _ _ _ us hl => match us, hl with | [_], _ => rfl
  have U4 := fun_mk (st := top 14) l4 c4 k4
  have b4 := U4.binds (ps := ["value"]) fun _ _ _ _ _ _ us hl => match us, hl with | [_], _ => rfl
  have U5 := fun_mk (st := top 15) l5 c5 k5
  have b5 := U5.binds (ps := ["top", "bottom"]) fun _ _ _ _ _ _ us hl => match us, hl with | [_, _], _ => rfl
  have U6 := fun_mk (st := top 16) l6 c6 k6
  have b6 := U6.binds (ps := ["ratio"]) fun _ _ _ _ _ _ us hl => match us, hl with | [_], _ => rfl
  have U7 := fun_mk (st := top 17) l7 c7 k7
  have b7 := U7.binds (ps := ["one", "other"]) fun _ _ _ _ _ _ us hl => match us, hl with | [_, _], _ => rfl
  have U8 := fun_mk (st := top 18) l8 c8 k8
  have b8 := U8.binds (ps := ["one", "other"]) fun _ _ _ _ _ _ us hl => match us, hl with | [_, _], _ => rfl
  have U9 := fun_mk (st := top 19) l9 c9 k9
  have b9 := U9.binds (ps := ["one", "other"]) fun _ _ _ _ _ _ us hl => match us, hl with | [_, _], _ => rfl
  have U10 := fun_mk (st := top 20) l10 c10 k10
  have b10 := U10.binds (ps := ["one", "other"]) fun _ _ _ _ _ _ us hl => match us, hl with | [_, _], _ => rfl
  have U11 := fun_mk (st := top 24) l11 c11 k11
  have b11 := U11.binds (ps := ["row"]) fun _ _ _ _ _ _ us hl => match us, hl with | [_], _ => rfl
  have U12 := fun_mk (st := top 25) l12 c12 k12
  have b12 := U12.binds (ps := ["one", "other"]) fun _ _ _ _ _ _ us hl => match us, hl with | [_, _], _ => rfl
  have U13 := fun_mk (st := top 28) l13 c13 k13
  have b13 := U13.binds (ps := ["row"]) fun _ _ _ _ _ _ us hl => match us, hl with | [_], _ => rfl
  have U14 := fun_mk (st := top 29) l14 c14 k14
  have b14 := U14.binds (ps := ["ratio"]) fun _ _ _ _ _ _ us hl => match us, hl with | [_], _ => rfl
  have U15 := fun_mk (st := top 30) l15 c15 k15
  have b15 := U15.binds (ps := ["row", "many"]) fun _ _ _ _ _ _ us hl => match us, hl with | [_, _], _ => rfl
  have U16 := fun_mk (st := top 31) l16 c16 k16
  have b16 := U16.binds (ps := ["row", "ratio"]) fun _ _ _ _ _ _ us hl => match us, hl with | [_, _], _ => rfl
  have U17 := fun_mk (st := top 32) l17 c17 k17
  have b17 := U17.binds (ps := ["one", "other"]) fun _ _ _ _ _ _ us hl => match us, hl with | [_, _], _ => rfl
  have U18 := fun_mk (st := top 34) l18 c18 k18
  have b18 := U18.binds (ps := ["row", "ratio"]) fun _ _ _ _ _ _ us hl => match us, hl with | [_, _], _ => rfl
  have U19 := fun_mk (st := top 35) l19 c19 k19
  have b19 := U19.binds (ps := ["row"]) fun _ _ _ _ _ _ us hl => match us, hl with | [_], _ => rfl
  have U20 := fun_mk (st := top 37) l20 c20 k20
  have b20 := U20.binds (ps := ["row", "by"]) fun _ _ _ _ _ _ us hl => match us, hl with | [_, _], _ => rfl
  have U21 := fun_mk (st := top 40) l21 c21 k21
  have b21 := U21.binds (ps := ["number"]) fun _ _ _ _ _ _ us hl => match us, hl with | [_], _ => rfl
  have U22 := fun_mk (st := top 41) l22 c22 k22
  have b22 := U22.binds (ps := ["number"]) fun _ _ _ _ _ _ us hl => match us, hl with | [_], _ => rfl
  have U23 := fun_mk (st := top 43) l23 c23 k23
  have b23 := U23.binds (ps := ["script"]) fun _ _ _ _ _ _ us hl => match us, hl with | [_], _ => rfl
  have U24 := fun_mk (st := top 44) l24 c24 k24
  have b24 := U24.binds (ps := ["pen", "many"]) fun _ _ _ _ _ _ us hl => match us, hl with | [_, _], _ => rfl
  have U25 := fun_mk (st := top 45) l25 c25 k25
  have b25 := U25.binds (ps := ["pen", "some"]) fun _ _ _ _ _ _ us hl => match us, hl with | [_, _], _ => rfl
  have U26 := fun_mk (st := top 46) l26 c26 k26
  have b26 := U26.binds (ps := ["thing"]) fun _ _ _ _ _ _ us hl => match us, hl with | [_], _ => rfl
  have U27 := fun_mk (st := top 47) l27 c27 k27
  have b27 := U27.binds (ps := ["one", "two"]) fun _ _ _ _ _ _ us hl => match us, hl with | [_, _], _ => rfl
  have U28 := fun_mk (st := top 48) l28 c28 k28
  have b28 := U28.binds (ps := ["top", "bottom"]) fun _ _ _ _ _ _ us hl => match us, hl with | [_, _], _ => rfl
  have U29 := fun_mk (st := top 49) l29 c29 k29
  have b29 := U29.binds (ps := ["one", "two"]) fun _ _ _ _ _ _ us hl => match us, hl with | [_, _], _ => rfl
  have U30 := fun_mk (st := top 50) l30 c30 k30
  have b30 := U30.binds (ps := ["one", "two"]) fun _ _ _ _ _ _ us hl => match us, hl with | [_, _], _ => rfl
  have U31 := fun_mk (st := top 51) l31 c31 k31
  have b31 := U31.binds (ps := ["one", "two"]) fun _ _ _ _ _ _ us hl => match us, hl with | [_, _], _ => rfl
  have U32 := fun_mk (st := top 52) l32 c32 k32
  have b32 := U32.binds (ps := ["thing"]) fun _ _ _ _ _ _ us hl => match us, hl with | [_], _ => rfl
  have U33 := fun_mk (st := top 53) l33 c33 k33
  have b33 := U33.binds (ps := ["action"]) fun _ _ _ _ _ _ us hl => match us, hl with | [_], _ => rfl
  have U34 := fun_mk (st := top 54) l34 c34 k34
  have b34 := U34.binds (ps := ["tries"]) fun _ _ _ _ _ _ us hl => match us, hl with | [_], _ => rfl
  have U35 := fun_mk (st := top 55) l35 c35 k35
  have b35 := U35.binds (ps := ["row"]) fun _ _ _ _ _ _ us hl => match us, hl with | [_], _ => rfl
  have U36 := fun_mk (st := top 56) l36 c36 k36
  have b36 := U36.binds (ps := ["one", "other"]) fun _ _ _ _ _ _ us hl => match us, hl with | [_, _], _ => rfl
  have U37 := fun_mk (st := top 57) l37 c37 k37
  have b37 := U37.binds (ps := ["thing"]) fun _ _ _ _ _ _ us hl => match us, hl with | [_], _ => rfl
  have U38 := fun_mk (st := top 58) l38 c38 k38
  have b38 := U38.binds (ps := ["number"]) fun _ _ _ _ _ _ us hl => match us, hl with | [_], _ => rfl
  have U39 := fun_mk (st := top 59) l39 c39 k39
  have b39 := U39.binds (ps := ["number"]) fun _ _ _ _ _ _ us hl => match us, hl with | [_], _ => rfl
  have U40 := fun_mk (st := top 60) l40 c40 k40
  have b40 := U40.binds (ps := ["script"]) fun _ _ _ _ _ _ us hl => match us, hl with | [_], _ => rfl
  have T0 : OexC K C0 := ⟨⟨nm0, qq0, nN0, bs0, bm0, sn0, sb0, ab0, co0, dd0, ka0, kb0, kc0, kd0, ke0, xC0, yC0⟩, sC0, eC0, tC0, kC0⟩
  have V0 := fun_mk (st := ctop 3 0) lC0 cC0 jC0
  have w_0 := V0.binds (ps := ["self", "what", "number"]) fun _ _ _ _ _ _ us hl => match us, hl with | [_, _, _], _ => rfl
  have N0 : ∀ f ∈ (["what", "number"] : List Str), PySem.W.findIn K (.ref C0) f = some none := (fa_cons nC0_0 (fa_cons nC0_1 fa_nil))
  have T1 : OexC K C1 := ⟨⟨nm1, qq1, nN1, bs1, bm1, sn1, sb1, ab1, co1, dd1, ka1, kb1, kc1, kd1, ke1, xC1, yC1⟩, sC1, eC1, tC1, kC1⟩
  have V1 := fun_mk (st := ctop 4 0) lC1 cC1 jC1
  have w_1 := V1.binds (ps := ["self", "line", "column"]) fun _ _ _ _ _ _ us hl => match us, hl with | [_, _, _], _ => rfl
  have N1 : ∀ f ∈ (["line", "column"] : List Str), PySem.W.findIn K (.ref C1) f = some none := (fa_cons nC1_0 (fa_cons nC1_1 fa_nil))
  have T2 : OexC K C2 := ⟨⟨nm2, qq2, nN2, bs2, bm2, sn2, sb2, ab2, co2, dd2, ka2, kb2, kc2, kd2, ke2, xC2, yC2⟩, sC2, eC2, tC2, kC2⟩
  have V2 := fun_mk (st := ctop 5 0) lC2 cC2 jC2
  have w_2 := V2.binds (ps := ["self", "row"]) fun _ _ _ _ _ _ us hl => match us, hl with | [_, _], _ => rfl
  have N2 : ∀ f ∈ (["row"] : List Str), PySem.W.findIn K (.ref C2) f = some none := (fa_cons nC2_0 fa_nil)
  have T3 : OexC K C3 := ⟨⟨nm3, qq3, nN3, bs3, bm3, sn3, sb3, ab3, co3, dd3, ka3, kb3, kc3, kd3, ke3, xC3, yC3⟩, sC3, eC3, tC3, kC3⟩
  have V3 := fun_mk (st := ctop 6 0) lC3 cC3 jC3
  have w_3 := V3.binds (ps := ["self", "what"]) fun _ _ _ _ _ _ us hl => match us, hl with | [_, _], _ => rfl
  have N3 : ∀ f ∈ (["what"] : List Str), PySem.W.findIn K (.ref C3) f = some none := (fa_cons nC3_0 fa_nil)
  have T4 : OexC K C4 := ⟨⟨nm4, qq4, nN4, bs4, bm4, sn4, sb4, ab4, co4, dd4, ka4, kb4, kc4, kd4, ke4, xC4, yC4⟩, sC4, eC4, tC4, kC4⟩
  have V4 := fun_mk (st := ctop 7 0) lC4 cC4 jC4
  have w_4 := V4.binds (ps := ["self", "what", "many", "limit"]) fun _ _ _ _ _ _ us hl => match us, hl with | [_, _, _, _], _ => rfl
  have N4 : ∀ f ∈ (["what", "many", "limit"] : List Str), PySem.W.findIn K (.ref C4) f = some none := (fa_cons nC4_0 (fa_cons nC4_1 (fa_cons nC4_2 fa_nil)))
  refine ⟨_, cdA, PtA, q_law, _, _, qv, l40, rfl, rfl, qa, rfl, qb, qc, fun s u => .of_eq rfl, fun base _ _ TB => ?_⟩
  have I0 : FnOk l.prog w K mg base (L2.CX l.prog w) 1 fI0 _ ["self", "what", "number"] (spI C0 ["what", "number"]) := init_ok (k := 0) V0 ⟨rfl, rfl, rfl, by decide +kernel, rfl, by decide +kernel, by decide +kernel⟩ (by kernel_rfl) (by kernel_rfl) (by kernel_rfl) (by simp) (by decide) (PySem.W.mg_of X G aB) oB rB fB T0 N0
  have E0 : ∀ k, 2 ≤ k → GOk l.prog w K mg base k "BadNumber" (.ex "BadNumber" ["what", "number"]) := fun k h => ⟨C0, fI0, _, 1, h, PySem.W.mg_of X G aC0, PySem.W.mg_of X G aC0, T0, iC0, uC0, I0, w_0, by decide, ⟨gC0, hC0, eC0, dC0⟩, N0⟩
  have I1 : FnOk l.prog w K mg base (L2.CX l.prog w) 1 fI1 _ ["self", "line", "column"] (spI C1 ["line", "column"]) := init_ok (k := 0) V1 ⟨rfl, rfl, rfl, by decide +kernel, rfl, by decide +kernel, by decide +kernel⟩ (by kernel_rfl) (by kernel_rfl) (by kernel_rfl) (by simp) (by decide) (PySem.W.mg_of X G aB) oB rB fB T1 N1
  have E1 : ∀ k, 2 ≤ k → GOk l.prog w K mg base k "BadText" (.ex "BadText" ["line", "column"]) := fun k h => ⟨C1, fI1, _, 1, h, PySem.W.mg_of X G aC1, PySem.W.mg_of X G aC1, T1, iC1, uC1, I1, w_1, by decide, ⟨gC1, hC1, eC1, dC1⟩, N1⟩
  have I2 : FnOk l.prog w K mg base (L2.CX l.prog w) 1 fI2 _ ["self", "row"] (spI C2 ["row"]) := init_ok (k := 0) V2 ⟨rfl, rfl, rfl, by decide +kernel, rfl, by decide +kernel, by decide +kernel⟩ (by kernel_rfl) (by kernel_rfl) (by kernel_rfl) (by simp) (by decide) (PySem.W.mg_of X G aB) oB rB fB T2 N2
  have E2 : ∀ k, 2 ≤ k → GOk l.prog w K mg base k "BadRow" (.ex "BadRow" ["row"]) := fun k h => ⟨C2, fI2, _, 1, h, PySem.W.mg_of X G aC2, PySem.W.mg_of X G aC2, T2, iC2, uC2, I2, w_2, by decide, ⟨gC2, hC2, eC2, dC2⟩, N2⟩
  have I3 : FnOk l.prog w K mg base (L2.CX l.prog w) 1 fI3 _ ["self", "what"] (spI C3 ["what"]) := init_ok (k := 0) V3 ⟨rfl, rfl, rfl, by decide +kernel, rfl, by decide +kernel, by decide +kernel⟩ (by kernel_rfl) (by kernel_rfl) (by kernel_rfl) (by simp) (by decide) (PySem.W.mg_of X G aB) oB rB fB T3 N3
  have E3 : ∀ k, 2 ≤ k → GOk l.prog w K mg base k "Unlike" (.ex "Unlike" ["what"]) := fun k h => ⟨C3, fI3, _, 1, h, PySem.W.mg_of X G aC3, PySem.W.mg_of X G aC3, T3, iC3, uC3, I3, w_3, by decide, ⟨gC3, hC3, eC3, dC3⟩, N3⟩
  have I4 : FnOk l.prog w K mg base (L2.CX l.prog w) 1 fI4 _ ["self", "what", "many", "limit"] (spI C4 ["what", "many", "limit"]) := init_ok (k := 0) V4 ⟨rfl, rfl, rfl, by decide +kernel, rfl, by decide +kernel, by decide +kernel⟩ (by kernel_rfl) (by kernel_rfl) (by kernel_rfl) (by simp) (by decide) (PySem.W.mg_of X G aB) oB rB fB T4 N4
  have E4 : ∀ k, 2 ≤ k → GOk l.prog w K mg base k "TooMany" (.ex "TooMany" ["what", "many", "limit"]) := fun k h => ⟨C4, fI4, _, 1, h, PySem.W.mg_of X G aC4, PySem.W.mg_of X G aC4, T4, iC4, uC4, I4, w_4, by decide, ⟨gC4, hC4, eC4, dC4⟩, N4⟩
  have G0 : FnG l.prog w K mg base 3 f0 _ ["value"] F_is_whole := fn_ok (k := 2) (c := c_is_whole) (m := m_is_whole) U0 s_is_whole rfl rfl rfl e_is_whole (gl_cons ⟨PySem.W.mg_none_of X G z0, boot_isinstance⟩ (gl_cons ⟨PySem.W.mg_none_of X G z1, boot_int⟩ (gl_cons ⟨PySem.W.mg_none_of X G z2, boot_bool⟩ gl_nil))) rfl rfl (cls_nil rfl)
  have R1 : ∀ n : Nat, FnG l.prog w K mg base (2 + n) f1 _ ["value"] (F_in_tuples n) := fun n => by
    induction n with
    | zero => exact fnG_bad
    | succ n ih => exact fn_ok (c := c_in_tuples (F_in_tuples n)) (m := m_in_tuples (F_in_tuples n)) U1 s_in_tuples rfl rfl rfl (e_in_tuples _) (gl_cons ⟨PySem.W.mg_none_of X G z3, boot_tuple⟩ (gl_cons (gok_fn U1 b1 ih (Nat.le_refl _) (PySem.W.mg_of X G a0)) (gl_cons ⟨PySem.W.mg_none_of X G z0, boot_isinstance⟩ (gl_cons ⟨PySem.W.mg_none_of X G z4, boot_list⟩ gl_nil)))) rfl rfl (cls_nil rfl)
  have G1 : FnG l.prog w K mg base 10 f1 _ ["value"] (F_in_tuples recN) := R1 8
  have G2 : FnG l.prog w K mg base 4 f2 _ ["what", "number", "low", "high"] F_need_between := fn_ok (k := 3) (c := c_need_between) (m := m_need_between) U2 s_need_between rfl rfl rfl e_need_between (gl_cons (E0 _ (by decide)) (gl_cons (gok_fn U0 b0 G0 (by decide) (PySem.W.mg_of X G a1)) gl_nil)) rfl rfl (cls_nil rfl)
  have G3 : FnG l.prog w K mg base 4 f3 _ ["value"] F_is_pair := fn_ok (k := 3) (c := c_is_pair) (m := m_is_pair) U3 s_is_pair rfl rfl rfl e_is_pair (gl_cons (gok_fn U0 b0 G0 (by decide) (PySem.W.mg_of X G a1)) (gl_cons ⟨PySem.W.mg_none_of X G z0, boot_isinstance⟩ (gl_cons ⟨PySem.W.mg_none_of X G z4, boot_list⟩ (gl_cons ⟨PySem.W.mg_none_of X G z3, boot_tuple⟩ (gl_cons ⟨PySem.W.mg_none_of X G z5, boot_len⟩ gl_nil))))) rfl rfl (cls_nil rfl)
  have G4 : FnG l.prog w K mg base 5 f4 _ ["value"] F_is_ratio := fn_ok (k := 4) (c := c_is_ratio) (m := m_is_ratio) U4 s_is_ratio rfl rfl rfl e_is_ratio (gl_cons (gok_fn U0 b0 G0 (by decide) (PySem.W.mg_of X G a1)) (gl_cons ⟨PySem.W.mg_none_of X G z0, boot_isinstance⟩ (gl_cons ⟨PySem.W.mg_none_of X G z3, boot_tuple⟩ (gl_cons (gok_fn U3 b3 G3 (by decide) (PySem.W.mg_of X G a2)) gl_nil)))) rfl rfl (cls_nil rfl)
  have G5 : FnG l.prog w K mg base 3 f5 _ ["top", "bottom"] F_lowest := fn_ok (k := 2) (c := c_lowest) (m := m_lowest) U5 s_lowest rfl rfl rfl e_lowest (gl_cons (PySem.W.mg_of X G w0) gl_nil) rfl rfl (cls_nil rfl)
  have G6 : FnG l.prog w K mg base 5 f6 _ ["ratio"] F_told := fn_ok (k := 4) (c := c_told) (m := m_told) U6 s_told rfl rfl rfl e_told (gl_cons (gok_fn U5 b5 G5 (by decide) (PySem.W.mg_of X G a3)) (gl_cons (gok_fn U3 b3 G3 (by decide) (PySem.W.mg_of X G a2)) (gl_cons (E2 _ (by decide)) (gl_cons (gok_fn U0 b0 G0 (by decide) (PySem.W.mg_of X G a1)) gl_nil)))) rfl rfl (cls_nil rfl)
  have G7 : FnG l.prog w K mg base 4 f7 _ ["one", "other"] F_summed := fn_ok (k := 3) (c := c_summed) (m := m_summed) U7 s_summed rfl rfl rfl e_summed (gl_cons (gok_fn U5 b5 G5 (by decide) (PySem.W.mg_of X G a3)) gl_nil) rfl rfl (cls_nil rfl)
  have G8 : FnG l.prog w K mg base 4 f8 _ ["one", "other"] F_lessened := fn_ok (k := 3) (c := c_lessened) (m := m_lessened) U8 s_lessened rfl rfl rfl e_lessened (gl_cons (gok_fn U5 b5 G5 (by decide) (PySem.W.mg_of X G a3)) gl_nil) rfl rfl (cls_nil rfl)
  have G9 : FnG l.prog w K mg base 4 f9 _ ["one", "other"] F_scaled := fn_ok (k := 3) (c := c_scaled) (m := m_scaled) U9 s_scaled rfl rfl rfl e_scaled (gl_cons (gok_fn U5 b5 G5 (by decide) (PySem.W.mg_of X G a3)) gl_nil) rfl rfl (cls_nil rfl)
  have G10 : FnG l.prog w K mg base 4 f10 _ ["one", "other"] F_parted := fn_ok (k := 3) (c := c_parted) (m := m_parted) U10 s_parted rfl rfl rfl e_parted (gl_cons (gok_fn U5 b5 G5 (by decide) (PySem.W.mg_of X G a3)) gl_nil) rfl rfl (cls_nil rfl)
  have G11 : FnG l.prog w K mg base 3 f11 _ ["row"] F_trimmed := fn_ok (k := 2) (c := c_trimmed) (m := m_trimmed) U11 s_trimmed rfl rfl rfl e_trimmed (gl_cons ⟨PySem.W.mg_none_of X G z3, boot_tuple⟩ (gl_cons ⟨PySem.W.mg_none_of X G z5, boot_len⟩ (gl_cons ⟨PySem.W.mg_none_of X G z4, boot_list⟩ gl_nil))) rfl rfl (cls_nil rfl)
  have G12 : FnG l.prog w K mg base 5 f12 _ ["one", "other"] F_row_product__0 := fn_ok (k := 4) (c := c_row_product__0) (m := m_row_product__0) U12 s_row_product__0 rfl rfl rfl e_row_product__0 (gl_cons (gok_fn U11 b11 G11 (by decide) (PySem.W.mg_of X G a4)) (gl_cons ⟨PySem.W.mg_none_of X G z6, boot_enumerate⟩ (gl_cons (gok_fn U7 b7 G7 (by decide) (PySem.W.mg_of X G a5)) (gl_cons (gok_fn U9 b9 G9 (by decide) (PySem.W.mg_of X G a6)) (gl_cons ⟨_, .ref v0, PySem.W.mg_of X G g0, rfl, v0, [.int (0), .int (1)], rfl, .inr ⟨_, _, _, h0, rfl, rfl, (show 2 ≤ sizeLine by decide), (.cons ⟨_, rfl⟩ (.cons ⟨_, rfl⟩ .nil))⟩, ⟨_, _, rfl, rfl, ⟨_, _, rfl, rfl, rfl⟩⟩⟩ (gl_cons ⟨PySem.W.mg_none_of X G z5, boot_len⟩ gl_nil)))))) rfl rfl (cls_nil rfl)
  have G13 : FnG l.prog w K mg base 11 f13 _ ["row"] F_row_passed := fn_ok (k := 10) (c := c_row_passed) (m := m_row_passed) U13 s_row_passed rfl rfl rfl e_row_passed (gl_cons (gok_fn U11 b11 G11 (by decide) (PySem.W.mg_of X G a4)) (gl_cons (gok_fn U6 b6 G6 (by decide) (PySem.W.mg_of X G a7)) (gl_cons ⟨PySem.W.mg_none_of X G z0, boot_isinstance⟩ (gl_cons ⟨PySem.W.mg_none_of X G z3, boot_tuple⟩ (gl_cons ⟨PySem.W.mg_none_of X G z7, boot_all⟩ (gl_cons (gok_fn U4 b4 G4 (by decide) (PySem.W.mg_of X G a8)) (gl_cons (E2 _ (by decide)) (gl_cons (gok_fn U1 b1 G1 (by decide) (PySem.W.mg_of X G a0)) gl_nil)))))))) rfl rfl (cls_nil rfl)
  have G14 : FnG l.prog w K mg base 6 f14 _ ["ratio"] F_ratio_passed := fn_ok (k := 5) (c := c_ratio_passed) (m := m_ratio_passed) U14 s_ratio_passed rfl rfl rfl e_ratio_passed (gl_cons (gok_fn U6 b6 G6 (by decide) (PySem.W.mg_of X G a7)) (gl_cons (E2 _ (by decide)) gl_nil)) rfl rfl (cls_of (c := c_ratio_passed) (fa_cons (And.intro (cls_one (PySem.W.mg_of X G aC0) (PySem.W.mg_of X G aC2) ((PySem.W.exm_ref eC2 dC2 tC2 p0_2).trans (by kernel_rfl))) True.intro) (fa_cons (And.intro (cls_one (PySem.W.mg_of X G aC1) (PySem.W.mg_of X G aC2) ((PySem.W.exm_ref eC2 dC2 tC2 p1_2).trans (by kernel_rfl))) True.intro) (fa_cons (And.intro (cls_one (PySem.W.mg_of X G aC2) (PySem.W.mg_of X G aC2) ((PySem.W.exm_ref eC2 dC2 tC2 p2_2).trans (by kernel_rfl))) True.intro) (fa_cons (And.intro (cls_one (PySem.W.mg_of X G aC3) (PySem.W.mg_of X G aC2) ((PySem.W.exm_ref eC2 dC2 tC2 p3_2).trans (by kernel_rfl))) True.intro) (fa_cons (And.intro (cls_one (PySem.W.mg_of X G aC4) (PySem.W.mg_of X G aC2) ((PySem.W.exm_ref eC2 dC2 tC2 p4_2).trans (by kernel_rfl))) True.intro) fa_nil))))))
  have G15 : FnG l.prog w K mg base 4 f15 _ ["row", "many"] F_stretched_by := fn_ok (k := 3) (c := c_stretched_by) (m := m_stretched_by) U15 s_stretched_by rfl rfl rfl e_stretched_by (gl_cons (gok_fn U11 b11 G11 (by decide) (PySem.W.mg_of X G a4)) (gl_cons ⟨_, .ref v0, PySem.W.mg_of X G g0, rfl, v0, [.int (0), .int (1)], rfl, .inr ⟨_, _, _, h0, rfl, rfl, (show 2 ≤ sizeLine by decide), (.cons ⟨_, rfl⟩ (.cons ⟨_, rfl⟩ .nil))⟩, ⟨_, _, rfl, rfl, ⟨_, _, rfl, rfl, rfl⟩⟩⟩ gl_nil)) rfl rfl (cls_nil rfl)
  have G16 : FnG l.prog w K mg base 5 f16 _ ["row", "ratio"] F_at_by := fn_ok (k := 4) (c := c_at_by) (m := m_at_by) U16 s_at_by rfl rfl rfl e_at_by (gl_cons (gok_fn U7 b7 G7 (by decide) (PySem.W.mg_of X G a5)) (gl_cons (gok_fn U9 b9 G9 (by decide) (PySem.W.mg_of X G a6)) (gl_cons ⟨_, .ref v0, PySem.W.mg_of X G g0, rfl, v0, [.int (0), .int (1)], rfl, .inr ⟨_, _, _, h0, rfl, rfl, (show 2 ≤ sizeLine by decide), (.cons ⟨_, rfl⟩ (.cons ⟨_, rfl⟩ .nil))⟩, ⟨_, _, rfl, rfl, ⟨_, _, rfl, rfl, rfl⟩⟩⟩ gl_nil))) rfl rfl (cls_nil rfl)
  have G17 : FnG l.prog w K mg base 12 f17 _ ["one", "other"] F_row_product := fn_ok (k := 11) (c := c_row_product) (m := m_row_product) U17 s_row_product rfl rfl rfl e_row_product (gl_cons (gok_fn U12 b12 G12 (by decide) (PySem.W.mg_of X G a9)) (gl_cons (gok_fn U13 b13 G13 (by decide) (PySem.W.mg_of X G a10)) gl_nil)) rfl rfl (cls_nil rfl)
  have G18 : FnG l.prog w K mg base 12 f18 _ ["row", "ratio"] F_row_at := fn_ok (k := 11) (c := c_row_at) (m := m_row_at) U18 s_row_at rfl rfl rfl e_row_at (gl_cons (gok_fn U16 b16 G16 (by decide) (PySem.W.mg_of X G a11)) (gl_cons (gok_fn U14 b14 G14 (by decide) (PySem.W.mg_of X G a12)) (gl_cons (gok_fn U13 b13 G13 (by decide) (PySem.W.mg_of X G a10)) gl_nil))) rfl rfl (cls_nil rfl)
  have G19 : FnG l.prog w K mg base 12 f19 _ ["row"] F_back_row := fn_ok (k := 11) (c := c_back_row) (m := m_back_row) U19 s_back_row rfl rfl rfl e_back_row (gl_cons (gok_fn U11 b11 G11 (by decide) (PySem.W.mg_of X G a4)) (gl_cons (gok_fn U13 b13 G13 (by decide) (PySem.W.mg_of X G a10)) gl_nil)) rfl rfl (cls_nil rfl)
  have G20 : FnG l.prog w K mg base 5 f20 _ ["row", "by"] F_shared_by := fn_ok (k := 4) (c := c_shared_by) (m := m_shared_by) U20 s_shared_by rfl rfl rfl e_shared_by (gl_cons ⟨PySem.W.mg_none_of X G z3, boot_tuple⟩ (gl_cons (gok_fn U11 b11 G11 (by decide) (PySem.W.mg_of X G a4)) (gl_cons ⟨PySem.W.mg_none_of X G z5, boot_len⟩ (gl_cons ⟨PySem.W.mg_none_of X G z4, boot_list⟩ (gl_cons ⟨PySem.W.mg_none_of X G z6, boot_enumerate⟩ (gl_cons (gok_fn U8 b8 G8 (by decide) (PySem.W.mg_of X G a13)) (gl_cons (gok_fn U9 b9 G9 (by decide) (PySem.W.mg_of X G a6)) (gl_cons (gok_fn U10 b10 G10 (by decide) (PySem.W.mg_of X G a14)) (gl_cons ⟨_, .ref v0, PySem.W.mg_of X G g0, rfl, v0, [.int (0), .int (1)], rfl, .inr ⟨_, _, _, h0, rfl, rfl, (show 2 ≤ sizeLine by decide), (.cons ⟨_, rfl⟩ (.cons ⟨_, rfl⟩ .nil))⟩, ⟨_, _, rfl, rfl, ⟨_, _, rfl, rfl, rfl⟩⟩⟩ (gl_cons ⟨PySem.W.mg_none_of X G z8, boot_max⟩ gl_nil)))))))))) rfl rfl (cls_nil rfl)
  have G21 : FnG l.prog w K mg base 6 f21 _ ["number"] F_ring_by := fn_ok (k := 5) (c := c_ring_by) (m := m_ring_by) U21 s_ring_by rfl rfl rfl e_ring_by (gl_cons ⟨PySem.W.mg_none_of X G z1, boot_int⟩ (gl_cons (gok_fn U20 b20 G20 (by decide) (PySem.W.mg_of X G a15)) (gl_cons (gok_fn U15 b15 G15 (by decide) (PySem.W.mg_of X G a16)) (gl_cons ⟨_, .ref v1, PySem.W.mg_of X G g1, rfl, v1, [.int (1), .int (1)], rfl, .inr ⟨_, _, _, h1, rfl, rfl, (show 2 ≤ sizeLine by decide), (.cons ⟨_, rfl⟩ (.cons ⟨_, rfl⟩ .nil))⟩, ⟨_, _, rfl, rfl, ⟨_, _, rfl, rfl, rfl⟩⟩⟩ gl_nil)))) rfl rfl (cls_nil rfl)
  have G22 : FnG l.prog w K mg base 7 f22 _ ["number"] F_ring_row := fn_ok (k := 6) (c := c_ring_row) (m := m_ring_row) U22 s_ring_row rfl rfl rfl e_ring_row (gl_cons (gok_fn U21 b21 G21 (by decide) (PySem.W.mg_of X G a17)) (gl_cons (gok_fn U2 b2 G2 (by decide) (PySem.W.mg_of X G a18)) (gl_cons ⟨_, .int (60), PySem.W.mg_of X G g2, ⟨_, rfl⟩, rfl⟩ gl_nil))) rfl rfl (cls_nil rfl)
  have G23 : FnG l.prog w K mg base 3 f23 _ ["script"] F_law_pen := fn_ok (k := 2) (c := c_law_pen) (m := m_law_pen) U23 s_law_pen rfl rfl rfl e_law_pen (gl_cons ⟨PySem.W.mg_none_of X G z4, boot_list⟩ (gl_cons ⟨PySem.W.mg_none_of X G z1, boot_int⟩ gl_nil)) rfl rfl (cls_nil rfl)
  have G24 : FnG l.prog w K mg base 3 f24 _ ["pen", "many"] F_law_draw := fn_ok (k := 2) (c := c_law_draw) (m := m_law_draw) U24 s_law_draw rfl rfl rfl e_law_draw (gl_cons ⟨PySem.W.mg_none_of X G z1, boot_int⟩ (gl_cons ⟨PySem.W.mg_none_of X G z5, boot_len⟩ gl_nil)) rfl rfl (cls_nil rfl)
  have G25 : FnG l.prog w K mg base 4 f25 _ ["pen", "some"] F_law_pick := fn_ok (k := 3) (c := c_law_pick) (m := m_law_pick) U25 s_law_pick rfl rfl rfl e_law_pick (gl_cons (gok_fn U24 b24 G24 (by decide) (PySem.W.mg_of X G a19)) (gl_cons ⟨PySem.W.mg_none_of X G z5, boot_len⟩ gl_nil)) rfl rfl (cls_nil rfl)
  have G26 : FnG l.prog w K mg base 3 f26 _ ["thing"] F_law_is_int := fn_ok (k := 2) (c := c_law_is_int) (m := m_law_is_int) U26 s_law_is_int rfl rfl rfl e_law_is_int (gl_cons ⟨PySem.W.mg_none_of X G z0, boot_isinstance⟩ (gl_cons ⟨PySem.W.mg_none_of X G z1, boot_int⟩ (gl_cons ⟨PySem.W.mg_none_of X G z2, boot_bool⟩ gl_nil))) rfl rfl (cls_nil rfl)
  have G27 : FnG l.prog w K mg base 3 f27 _ ["one", "two"] F_law_gcd := fn_ok (k := 2) (c := c_law_gcd) (m := m_law_gcd) U27 s_law_gcd rfl rfl rfl e_law_gcd (gl_cons ⟨PySem.W.mg_none_of X G z9, boot_range⟩ (gl_cons ⟨PySem.W.mg_none_of X G z1, boot_int⟩ (gl_cons ⟨PySem.W.mg_none_of X G z10, boot_abs⟩ gl_nil))) rfl rfl (cls_nil rfl)
  have G28 : FnG l.prog w K mg base 4 f28 _ ["top", "bottom"] F_law_q := fn_ok (k := 3) (c := c_law_q) (m := m_law_q) U28 s_law_q rfl rfl rfl e_law_q (gl_cons (gok_fn U27 b27 G27 (by decide) (PySem.W.mg_of X G a20)) gl_nil) rfl rfl (cls_nil rfl)
  have G29 : FnG l.prog w K mg base 5 f29 _ ["one", "two"] F_law_times := fn_ok (k := 4) (c := c_law_times) (m := m_law_times) U29 s_law_times rfl rfl rfl e_law_times (gl_cons (gok_fn U28 b28 G28 (by decide) (PySem.W.mg_of X G a21)) gl_nil) rfl rfl (cls_nil rfl)
  have G30 : FnG l.prog w K mg base 5 f30 _ ["one", "two"] F_law_minus := fn_ok (k := 4) (c := c_law_minus) (m := m_law_minus) U30 s_law_minus rfl rfl rfl e_law_minus (gl_cons (gok_fn U28 b28 G28 (by decide) (PySem.W.mg_of X G a21)) gl_nil) rfl rfl (cls_nil rfl)
  have G31 : FnG l.prog w K mg base 5 f31 _ ["one", "two"] F_law_share := fn_ok (k := 4) (c := c_law_share) (m := m_law_share) U31 s_law_share rfl rfl rfl e_law_share (gl_cons (gok_fn U28 b28 G28 (by decide) (PySem.W.mg_of X G a21)) gl_nil) rfl rfl (cls_nil rfl)
  have G32 : FnG l.prog w K mg base 4 f32 _ ["thing"] F_law_is_told := fn_ok (k := 3) (c := c_law_is_told) (m := m_law_is_told) U32 s_law_is_told rfl rfl rfl e_law_is_told (gl_cons (gok_fn U27 b27 G27 (by decide) (PySem.W.mg_of X G a20)) (gl_cons ⟨PySem.W.mg_none_of X G z0, boot_isinstance⟩ (gl_cons ⟨PySem.W.mg_none_of X G z3, boot_tuple⟩ (gl_cons ⟨PySem.W.mg_none_of X G z5, boot_len⟩ (gl_cons (gok_fn U26 b26 G26 (by decide) (PySem.W.mg_of X G a22)) gl_nil))))) rfl rfl (cls_nil rfl)
  have G33 : FnL l.prog w K mg base 41 f33 _ ["action"] F_law_fault := fnL_ok (N := ["action", "error"]) (ps := ["action"]) (sig := [false]) (k := 40) (c := c_law_fault) (m := m_law_fault) U33 s_law_fault rfl (fun _ => rfl) (fun _ => rfl) (fun _ => rfl) e_law_fault (fun _ => (gl_cons (E1 _ (by decide)) (gl_cons (E0 _ (by decide)) (gl_cons (E2 _ (by decide)) (gl_cons (E4 _ (by decide)) (gl_cons (E3 _ (by decide)) gl_nil)))))) (fun _ => rfl) (by decide) (fun _ => rfl) (fun Λ => (cls_of (c := c_law_fault Λ) (fa_cons (And.intro (cls_one (PySem.W.mg_of X G aC0) (PySem.W.mg_of X G aC1) ((PySem.W.exm_ref eC1 dC1 tC1 p0_1).trans (by kernel_rfl))) (And.intro (cls_one (PySem.W.mg_of X G aC0) (PySem.W.mg_of X G aC0) ((PySem.W.exm_ref eC0 dC0 tC0 p0_0).trans (by kernel_rfl))) (And.intro (cls_one (PySem.W.mg_of X G aC0) (PySem.W.mg_of X G aC2) ((PySem.W.exm_ref eC2 dC2 tC2 p0_2).trans (by kernel_rfl))) (And.intro (cls_one (PySem.W.mg_of X G aC0) (PySem.W.mg_of X G aC4) ((PySem.W.exm_ref eC4 dC4 tC4 p0_4).trans (by kernel_rfl))) (And.intro (cls_one (PySem.W.mg_of X G aC0) (PySem.W.mg_of X G aC3) ((PySem.W.exm_ref eC3 dC3 tC3 p0_3).trans (by kernel_rfl))) True.intro))))) (fa_cons (And.intro (cls_one (PySem.W.mg_of X G aC1) (PySem.W.mg_of X G aC1) ((PySem.W.exm_ref eC1 dC1 tC1 p1_1).trans (by kernel_rfl))) (And.intro (cls_one (PySem.W.mg_of X G aC1) (PySem.W.mg_of X G aC0) ((PySem.W.exm_ref eC0 dC0 tC0 p1_0).trans (by kernel_rfl))) (And.intro (cls_one (PySem.W.mg_of X G aC1) (PySem.W.mg_of X G aC2) ((PySem.W.exm_ref eC2 dC2 tC2 p1_2).trans (by kernel_rfl))) (And.intro (cls_one (PySem.W.mg_of X G aC1) (PySem.W.mg_of X G aC4) ((PySem.W.exm_ref eC4 dC4 tC4 p1_4).trans (by kernel_rfl))) (And.intro (cls_one (PySem.W.mg_of X G aC1) (PySem.W.mg_of X G aC3) ((PySem.W.exm_ref eC3 dC3 tC3 p1_3).trans (by kernel_rfl))) True.intro))))) (fa_cons (And.intro (cls_one (PySem.W.mg_of X G aC2) (PySem.W.mg_of X G aC1) ((PySem.W.exm_ref eC1 dC1 tC1 p2_1).trans (by kernel_rfl))) (And.intro (cls_one (PySem.W.mg_of X G aC2) (PySem.W.mg_of X G aC0) ((PySem.W.exm_ref eC0 dC0 tC0 p2_0).trans (by kernel_rfl))) (And.intro (cls_one (PySem.W.mg_of X G aC2) (PySem.W.mg_of X G aC2) ((PySem.W.exm_ref eC2 dC2 tC2 p2_2).trans (by kernel_rfl))) (And.intro (cls_one (PySem.W.mg_of X G aC2) (PySem.W.mg_of X G aC4) ((PySem.W.exm_ref eC4 dC4 tC4 p2_4).trans (by kernel_rfl))) (And.intro (cls_one (PySem.W.mg_of X G aC2) (PySem.W.mg_of X G aC3) ((PySem.W.exm_ref eC3 dC3 tC3 p2_3).trans (by kernel_rfl))) True.intro))))) (fa_cons (And.intro (cls_one (PySem.W.mg_of X G aC3) (PySem.W.mg_of X G aC1) ((PySem.W.exm_ref eC1 dC1 tC1 p3_1).trans (by kernel_rfl))) (And.intro (cls_one (PySem.W.mg_of X G aC3) (PySem.W.mg_of X G aC0) ((PySem.W.exm_ref eC0 dC0 tC0 p3_0).trans (by kernel_rfl))) (And.intro (cls_one (PySem.W.mg_of X G aC3) (PySem.W.mg_of X G aC2) ((PySem.W.exm_ref eC2 dC2 tC2 p3_2).trans (by kernel_rfl))) (And.intro (cls_one (PySem.W.mg_of X G aC3) (PySem.W.mg_of X G aC4) ((PySem.W.exm_ref eC4 dC4 tC4 p3_4).trans (by kernel_rfl))) (And.intro (cls_one (PySem.W.mg_of X G aC3) (PySem.W.mg_of X G aC3) ((PySem.W.exm_ref eC3 dC3 tC3 p3_3).trans (by kernel_rfl))) True.intro))))) (fa_cons (And.intro (cls_one (PySem.W.mg_of X G aC4) (PySem.W.mg_of X G aC1) ((PySem.W.exm_ref eC1 dC1 tC1 p4_1).trans (by kernel_rfl))) (And.intro (cls_one (PySem.W.mg_of X G aC4) (PySem.W.mg_of X G aC0) ((PySem.W.exm_ref eC0 dC0 tC0 p4_0).trans (by kernel_rfl))) (And.intro (cls_one (PySem.W.mg_of X G aC4) (PySem.W.mg_of X G aC2) ((PySem.W.exm_ref eC2 dC2 tC2 p4_2).trans (by kernel_rfl))) (And.intro (cls_one (PySem.W.mg_of X G aC4) (PySem.W.mg_of X G aC4) ((PySem.W.exm_ref eC4 dC4 tC4 p4_4).trans (by kernel_rfl))) (And.intro (cls_one (PySem.W.mg_of X G aC4) (PySem.W.mg_of X G aC3) ((PySem.W.exm_ref eC3 dC3 tC3 p4_3).trans (by kernel_rfl))) True.intro))))) fa_nil)))))))
  have G34 : FnL l.prog w K mg base 42 f34 _ ["tries"] F_law_are_due := fnL_ok (N := ["tries", "action", "due"]) (ps := ["tries"]) (sig := [false]) (k := 41) (c := c_law_are_due) (m := m_law_are_due) U34 s_law_are_due rfl (fun _ => rfl) (fun _ => rfl) (fun _ => rfl) e_law_are_due (fun _ => (gl_cons ⟨PySem.W.mg_none_of X G z7, boot_all⟩ (gl_cons ⟨PySem.W.mg_none_of X G z11, boot_repr⟩ (gl_cons (gok_fnL U33 b33 G33 (by decide) (PySem.W.mg_of X G a23)) gl_nil)))) (fun _ => rfl) (by decide) (fun _ => rfl) (fun Λ => (cls_nil rfl))
  have G35 : FnG l.prog w K mg base 3 f35 _ ["row"] F_law_trim := fn_ok (k := 2) (c := c_law_trim) (m := m_law_trim) U35 s_law_trim rfl rfl rfl e_law_trim (gl_cons ⟨PySem.W.mg_none_of X G z3, boot_tuple⟩ (gl_cons ⟨PySem.W.mg_none_of X G z4, boot_list⟩ gl_nil)) rfl rfl (cls_nil rfl)
  have G36 : FnG l.prog w K mg base 6 f36 _ ["one", "other"] F_law_row_parted := fn_ok (k := 5) (c := c_law_row_parted) (m := m_law_row_parted) U36 s_law_row_parted rfl rfl rfl e_law_row_parted (gl_cons (gok_fn U35 b35 G35 (by decide) (PySem.W.mg_of X G a24)) (gl_cons ⟨PySem.W.mg_none_of X G z5, boot_len⟩ (gl_cons ⟨PySem.W.mg_none_of X G z6, boot_enumerate⟩ (gl_cons (gok_fn U30 b30 G30 (by decide) (PySem.W.mg_of X G a25)) (gl_cons (gok_fn U29 b29 G29 (by decide) (PySem.W.mg_of X G a26)) (gl_cons (gok_fn U31 b31 G31 (by decide) (PySem.W.mg_of X G a27)) (gl_cons ⟨PySem.W.mg_none_of X G z4, boot_list⟩ gl_nil))))))) rfl rfl (cls_nil rfl)
  have G37 : FnG l.prog w K mg base 5 f37 _ ["thing"] F_law_h_is_row := fn_ok (k := 4) (c := c_law_h_is_row) (m := m_law_h_is_row) U37 s_law_h_is_row rfl rfl rfl e_law_h_is_row (gl_cons ⟨PySem.W.mg_none_of X G z0, boot_isinstance⟩ (gl_cons ⟨PySem.W.mg_none_of X G z3, boot_tuple⟩ (gl_cons ⟨PySem.W.mg_none_of X G z7, boot_all⟩ (gl_cons (gok_fn U32 b32 G32 (by decide) (PySem.W.mg_of X G a28)) gl_nil)))) rfl rfl (cls_nil rfl)
  have G38 : FnG l.prog w K mg base 7 f38 _ ["number"] F_law_h_ring := fn_ok (k := 6) (c := c_law_h_ring) (m := m_law_h_ring) U38 s_law_h_ring rfl rfl rfl e_law_h_ring (gl_cons ⟨PySem.W.mg_none_of X G z9, boot_range⟩ (gl_cons ⟨PySem.W.mg_none_of X G z1, boot_int⟩ (gl_cons (gok_fn U36 b36 G36 (by decide) (PySem.W.mg_of X G a29)) gl_nil))) rfl rfl (cls_nil rfl)
  have G39 : FnG l.prog w K mg base 3 f39 _ ["number"] F_law_prime_of := fn_ok (k := 2) (c := c_law_prime_of) (m := m_law_prime_of) U39 s_law_prime_of rfl rfl rfl e_law_prime_of (gl_cons ⟨PySem.W.mg_none_of X G z1, boot_int⟩ (gl_cons ⟨PySem.W.mg_none_of X G z9, boot_range⟩ gl_nil)) rfl rfl (cls_nil rfl)
  exact mk_ok (N := ["script", "pen", "number", "row", "whole", "k", "free", "bad", "item"]) (ps := ["script"]) (sig := [false]) (k := 42) (c := c_law) (m := m_law) (gl := lg_law) l40 c40 s_law rfl (fun _ => rfl) (fun _ => rfl) (fun _ => rfl) e_law (fun _ => (gl_cons (gok_fnL U34 b34 G34 (by decide) (PySem.W.mg_of X G a30)) (gl_cons (gok_fn U25 b25 G25 (by decide) (PySem.W.mg_of X G a31)) (gl_cons (gok_fn U24 b24 G24 (by decide) (PySem.W.mg_of X G a19)) (gl_cons ⟨PySem.W.mg_none_of X G z5, boot_len⟩ (gl_cons ⟨PySem.W.mg_none_of X G z9, boot_range⟩ (gl_cons (gok_fn U27 b27 G27 (by decide) (PySem.W.mg_of X G a20)) (gl_cons (gok_fn U18 b18 G18 (by decide) (PySem.W.mg_of X G a32)) (gl_cons (gok_fn U39 b39 G39 (by decide) (PySem.W.mg_of X G a33)) (gl_cons (gok_fn U19 b19 G19 (by decide) (PySem.W.mg_of X G a34)) (gl_cons ⟨PySem.W.mg_none_of X G z1, boot_int⟩ (gl_cons (gok_fn U17 b17 G17 (by decide) (PySem.W.mg_of X G a35)) (gl_cons (gok_fn U22 b22 G22 (by decide) (PySem.W.mg_of X G a36)) (gl_cons ⟨PySem.W.mg_none_of X G z11, boot_repr⟩ (gl_cons (gok_fn U38 b38 G38 (by decide) (PySem.W.mg_of X G a37)) (gl_cons (gok_fn U37 b37 G37 (by decide) (PySem.W.mg_of X G a38)) (gl_cons ⟨PySem.W.mg_none_of X G z12, boot_any⟩ (gl_cons (gok_fn U23 b23 G23 (by decide) (PySem.W.mg_of X G a39)) gl_nil)))))))))))))))))) (fun _ => cls_nil rfl) (fun _ => rfl) (fun _ => rfl) (by decide) TB (gl_cons (gok_fn U22 b22 G22 (by decide) (PySem.W.mg_of X G a36)) gl_nil)
end K19
end FL
set_option Elab.async false
set_option linter.all false
set_option maxRecDepth 100000
set_option maxHeartbeats 0
namespace FL
namespace K19
open PySem PySem.Spec L2
open PyProof.Rows hiding St
def rowD (cs : List Int) : FL.D := .tup (cs.map fun c => .tup [.int c, .int 1])
end K19
end FL
set_option Elab.async false
set_option linter.all false
set_option maxRecDepth 100000
set_option maxHeartbeats 0
namespace FL
namespace K19
open PySem PySem.Spec L2
open PyProof.Rows hiding St
theorem ring_1 : F_ring_by [.d (.int 1)] = .ok (.d (rowD [-1, 1])) [.d .non] := by kernel_rfl
theorem ring_2 : F_ring_by [.d (.int 2)] = .ok (.d (rowD [1, 1])) [.d .non] := by kernel_rfl
theorem ring_3 : F_ring_by [.d (.int 3)] = .ok (.d (rowD [1, 1, 1])) [.d .non] := by kernel_rfl
theorem ring_4 : F_ring_by [.d (.int 4)] = .ok (.d (rowD [1, 0, 1])) [.d .non] := by kernel_rfl
theorem ring_5 : F_ring_by [.d (.int 5)] = .ok (.d (rowD [1, 1, 1, 1, 1])) [.d .non] := by kernel_rfl
theorem ring_6 : F_ring_by [.d (.int 6)] = .ok (.d (rowD [1, -1, 1])) [.d .non] := by kernel_rfl
theorem ring_7 : F_ring_by [.d (.int 7)] = .ok (.d (rowD [1, 1, 1, 1, 1, 1, 1])) [.d .non] := by kernel_rfl
theorem ring_8 : F_ring_by [.d (.int 8)] = .ok (.d (rowD [1, 0, 0, 0, 1])) [.d .non] := by kernel_rfl
theorem ring_9 : F_ring_by [.d (.int 9)] = .ok (.d (rowD [1, 0, 0, 1, 0, 0, 1])) [.d .non] := by kernel_rfl
theorem ring_10 : F_ring_by [.d (.int 10)] = .ok (.d (rowD [1, -1, 1, -1, 1])) [.d .non] := by kernel_rfl
theorem ring_11 : F_ring_by [.d (.int 11)] = .ok (.d (rowD [1, 1, 1, 1, 1, 1, 1, 1, 1, 1, 1])) [.d .non] := by kernel_rfl
theorem ring_12 : F_ring_by [.d (.int 12)] = .ok (.d (rowD [1, 0, -1, 0, 1])) [.d .non] := by kernel_rfl
theorem ring_13 : F_ring_by [.d (.int 13)] = .ok (.d (rowD [1, 1, 1, 1, 1, 1, 1, 1, 1, 1, 1, 1, 1])) [.d .non] := by kernel_rfl
theorem ring_14 : F_ring_by [.d (.int 14)] = .ok (.d (rowD [1, -1, 1, -1, 1, -1, 1])) [.d .non] := by kernel_rfl
theorem ring_15 : F_ring_by [.d (.int 15)] = .ok (.d (rowD [1, -1, 0, 1, -1, 1, 0, -1, 1])) [.d .non] := by kernel_rfl
theorem ring_16 : F_ring_by [.d (.int 16)] = .ok (.d (rowD [1, 0, 0, 0, 0, 0, 0, 0, 1])) [.d .non] := by kernel_rfl
theorem ring_17 : F_ring_by [.d (.int 17)] = .ok (.d (rowD [1, 1, 1, 1, 1, 1, 1, 1, 1, 1, 1, 1, 1, 1, 1, 1, 1])) [.d .non] := by kernel_rfl
theorem ring_18 : F_ring_by [.d (.int 18)] = .ok (.d (rowD [1, 0, 0, -1, 0, 0, 1])) [.d .non] := by kernel_rfl
theorem ring_19 : F_ring_by [.d (.int 19)] = .ok (.d (rowD [1, 1, 1, 1, 1, 1, 1, 1, 1, 1, 1, 1, 1, 1, 1, 1, 1, 1, 1])) [.d .non] := by kernel_rfl
theorem ring_20 : F_ring_by [.d (.int 20)] = .ok (.d (rowD [1, 0, -1, 0, 1, 0, -1, 0, 1])) [.d .non] := by kernel_rfl
theorem ring_21 : F_ring_by [.d (.int 21)] = .ok (.d (rowD [1, -1, 0, 1, -1, 0, 1, 0, -1, 1, 0, -1, 1])) [.d .non] := by kernel_rfl
theorem ring_22 : F_ring_by [.d (.int 22)] = .ok (.d (rowD [1, -1, 1, -1, 1, -1, 1, -1, 1, -1, 1])) [.d .non] := by kernel_rfl
theorem ring_23 : F_ring_by [.d (.int 23)] = .ok (.d (rowD [1, 1, 1, 1, 1, 1, 1, 1, 1, 1, 1, 1, 1, 1, 1, 1, 1, 1, 1, 1, 1, 1, 1])) [.d .non] := by kernel_rfl
theorem ring_24 : F_ring_by [.d (.int 24)] = .ok (.d (rowD [1, 0, 0, 0, -1, 0, 0, 0, 1])) [.d .non] := by kernel_rfl
theorem ring_25 : F_ring_by [.d (.int 25)] = .ok (.d (rowD [1, 0, 0, 0, 0, 1, 0, 0, 0, 0, 1, 0, 0, 0, 0, 1, 0, 0, 0, 0, 1])) [.d .non] := by kernel_rfl
theorem ring_26 : F_ring_by [.d (.int 26)] = .ok (.d (rowD [1, -1, 1, -1, 1, -1, 1, -1, 1, -1, 1, -1, 1])) [.d .non] := by kernel_rfl
theorem ring_27 : F_ring_by [.d (.int 27)] = .ok (.d (rowD [1, 0, 0, 0, 0, 0, 0, 0, 0, 1, 0, 0, 0, 0, 0, 0, 0, 0, 1])) [.d .non] := by kernel_rfl
theorem ring_28 : F_ring_by [.d (.int 28)] = .ok (.d (rowD [1, 0, -1, 0, 1, 0, -1, 0, 1, 0, -1, 0, 1])) [.d .non] := by kernel_rfl
theorem ring_29 : F_ring_by [.d (.int 29)] = .ok (.d (rowD [1, 1, 1, 1, 1, 1, 1, 1, 1, 1, 1, 1, 1, 1, 1, 1, 1, 1, 1, 1, 1, 1, 1, 1, 1, 1, 1, 1, 1])) [.d .non] := by kernel_rfl
theorem ring_30 : F_ring_by [.d (.int 30)] = .ok (.d (rowD [1, 1, 0, -1, -1, -1, 0, 1, 1])) [.d .non] := by kernel_rfl
end K19
end FL
set_option Elab.async false
set_option linter.all false
set_option maxRecDepth 100000
set_option maxHeartbeats 0
namespace FL
namespace K19
open PySem PySem.Spec L2
open PyProof.Rows hiding St
theorem ring_31 : F_ring_by [.d (.int 31)] = .ok (.d (rowD [1, 1, 1, 1, 1, 1, 1, 1, 1, 1, 1, 1, 1, 1, 1, 1, 1, 1, 1, 1, 1, 1, 1, 1, 1, 1, 1, 1, 1, 1, 1])) [.d .non] := by kernel_rfl
theorem ring_32 : F_ring_by [.d (.int 32)] = .ok (.d (rowD [1, 0, 0, 0, 0, 0, 0, 0, 0, 0, 0, 0, 0, 0, 0, 0, 1])) [.d .non] := by kernel_rfl
theorem ring_33 : F_ring_by [.d (.int 33)] = .ok (.d (rowD [1, -1, 0, 1, -1, 0, 1, -1, 0, 1, -1, 1, 0, -1, 1, 0, -1, 1, 0, -1, 1])) [.d .non] := by kernel_rfl
theorem ring_34 : F_ring_by [.d (.int 34)] = .ok (.d (rowD [1, -1, 1, -1, 1, -1, 1, -1, 1, -1, 1, -1, 1, -1, 1, -1, 1])) [.d .non] := by kernel_rfl
theorem ring_35 : F_ring_by [.d (.int 35)] = .ok (.d (rowD [1, -1, 0, 0, 0, 1, -1, 1, -1, 0, 1, -1, 1, -1, 1, 0, -1, 1, -1, 1, 0, 0, 0, -1, 1])) [.d .non] := by kernel_rfl
theorem ring_36 : F_ring_by [.d (.int 36)] = .ok (.d (rowD [1, 0, 0, 0, 0, 0, -1, 0, 0, 0, 0, 0, 1])) [.d .non] := by kernel_rfl
theorem ring_37 : F_ring_by [.d (.int 37)] = .ok (.d (rowD [1, 1, 1, 1, 1, 1, 1, 1, 1, 1, 1, 1, 1, 1, 1, 1, 1, 1, 1, 1, 1, 1, 1, 1, 1, 1, 1, 1, 1, 1, 1, 1, 1, 1, 1, 1, 1])) [.d .non] := by kernel_rfl
theorem ring_38 : F_ring_by [.d (.int 38)] = .ok (.d (rowD [1, -1, 1, -1, 1, -1, 1, -1, 1, -1, 1, -1, 1, -1, 1, -1, 1, -1, 1])) [.d .non] := by kernel_rfl
theorem ring_39 : F_ring_by [.d (.int 39)] = .ok (.d (rowD [1, -1, 0, 1, -1, 0, 1, -1, 0, 1, -1, 0, 1, 0, -1, 1, 0, -1, 1, 0, -1, 1, 0, -1, 1])) [.d .non] := by kernel_rfl
theorem ring_40 : F_ring_by [.d (.int 40)] = .ok (.d (rowD [1, 0, 0, 0, -1, 0, 0, 0, 1, 0, 0, 0, -1, 0, 0, 0, 1])) [.d .non] := by kernel_rfl
theorem ring_41 : F_ring_by [.d (.int 41)] = .ok (.d (rowD [1, 1, 1, 1, 1, 1, 1, 1, 1, 1, 1, 1, 1, 1, 1, 1, 1, 1, 1, 1, 1, 1, 1, 1, 1, 1, 1, 1, 1, 1, 1, 1, 1, 1, 1, 1, 1, 1, 1, 1, 1])) [.d .non] := by kernel_rfl
theorem ring_42 : F_ring_by [.d (.int 42)] = .ok (.d (rowD [1, 1, 0, -1, -1, 0, 1, 0, -1, -1, 0, 1, 1])) [.d .non] := by kernel_rfl
theorem ring_43 : F_ring_by [.d (.int 43)] = .ok (.d (rowD [1, 1, 1, 1, 1, 1, 1, 1, 1, 1, 1, 1, 1, 1, 1, 1, 1, 1, 1, 1, 1, 1, 1, 1, 1, 1, 1, 1, 1, 1, 1, 1, 1, 1, 1, 1, 1, 1, 1, 1, 1, 1, 1])) [.d .non] := by kernel_rfl
end K19
end FL
set_option Elab.async false
set_option linter.all false
set_option maxRecDepth 100000
set_option maxHeartbeats 0
namespace FL
namespace K19
open PySem PySem.Spec L2
open PyProof.Rows hiding St
theorem ring_44 : F_ring_by [.d (.int 44)] = .ok (.d (rowD [1, 0, -1, 0, 1, 0, -1, 0, 1, 0, -1, 0, 1, 0, -1, 0, 1, 0, -1, 0, 1])) [.d .non] := by kernel_rfl
theorem ring_45 : F_ring_by [.d (.int 45)] = .ok (.d (rowD [1, 0, 0, -1, 0, 0, 0, 0, 0, 1, 0, 0, -1, 0, 0, 1, 0, 0, 0, 0, 0, -1, 0, 0, 1])) [.d .non] := by kernel_rfl
theorem ring_46 : F_ring_by [.d (.int 46)] = .ok (.d (rowD [1, -1, 1, -1, 1, -1, 1, -1, 1, -1, 1, -1, 1, -1, 1, -1, 1, -1, 1, -1, 1, -1, 1])) [.d .non] := by kernel_rfl
theorem ring_47 : F_ring_by [.d (.int 47)] = .ok (.d (rowD [1, 1, 1, 1, 1, 1, 1, 1, 1, 1, 1, 1, 1, 1, 1, 1, 1, 1, 1, 1, 1, 1, 1, 1, 1, 1, 1, 1, 1, 1, 1, 1, 1, 1, 1, 1, 1, 1, 1, 1, 1, 1, 1, 1, 1, 1, 1])) [.d .non] := by kernel_rfl
theorem ring_48 : F_ring_by [.d (.int 48)] = .ok (.d (rowD [1, 0, 0, 0, 0, 0, 0, 0, -1, 0, 0, 0, 0, 0, 0, 0, 1])) [.d .non] := by kernel_rfl
theorem ring_49 : F_ring_by [.d (.int 49)] = .ok (.d (rowD [1, 0, 0, 0, 0, 0, 0, 1, 0, 0, 0, 0, 0, 0, 1, 0, 0, 0, 0, 0, 0, 1, 0, 0, 0, 0, 0, 0, 1, 0, 0, 0, 0, 0, 0, 1, 0, 0, 0, 0, 0, 0, 1])) [.d .non] := by kernel_rfl
theorem ring_50 : F_ring_by [.d (.int 50)] = .ok (.d (rowD [1, 0, 0, 0, 0, -1, 0, 0, 0, 0, 1, 0, 0, 0, 0, -1, 0, 0, 0, 0, 1])) [.d .non] := by kernel_rfl
theorem ring_51 : F_ring_by [.d (.int 51)] = .ok (.d (rowD [1, -1, 0, 1, -1, 0, 1, -1, 0, 1, -1, 0, 1, -1, 0, 1, -1, 1, 0, -1, 1, 0, -1, 1, 0, -1, 1, 0, -1, 1, 0, -1, 1])) [.d .non] := by kernel_rfl
theorem ring_52 : F_ring_by [.d (.int 52)] = .ok (.d (rowD [1, 0, -1, 0, 1, 0, -1, 0, 1, 0, -1, 0, 1, 0, -1, 0, 1, 0, -1, 0, 1, 0, -1, 0, 1])) [.d .non] := by kernel_rfl
end K19
end FL
set_option Elab.async false
set_option linter.all false
set_option maxRecDepth 100000
set_option maxHeartbeats 0
namespace FL
namespace K19
open PySem PySem.Spec L2
open PyProof.Rows hiding St
theorem ring_53 : F_ring_by [.d (.int 53)] = .ok (.d (rowD [1, 1, 1, 1, 1, 1, 1, 1, 1, 1, 1, 1, 1, 1, 1, 1, 1, 1, 1, 1, 1, 1, 1, 1, 1, 1, 1, 1, 1, 1, 1, 1, 1, 1, 1, 1, 1, 1, 1, 1, 1, 1, 1, 1, 1, 1, 1, 1, 1, 1, 1, 1, 1])) [.d .non] := by kernel_rfl
theorem ring_54 : F_ring_by [.d (.int 54)] = .ok (.d (rowD [1, 0, 0, 0, 0, 0, 0, 0, 0, -1, 0, 0, 0, 0, 0, 0, 0, 0, 1])) [.d .non] := by kernel_rfl
theorem ring_55 : F_ring_by [.d (.int 55)] = .ok (.d (rowD [1, -1, 0, 0, 0, 1, -1, 0, 0, 0, 1, 0, -1, 0, 0, 1, 0, -1, 0, 0, 1, 0, 0, -1, 0, 1, 0, 0, -1, 0, 1, 0, 0, 0, -1, 1, 0, 0, 0, -1, 1])) [.d .non] := by kernel_rfl
theorem ring_56 : F_ring_by [.d (.int 56)] = .ok (.d (rowD [1, 0, 0, 0, -1, 0, 0, 0, 1, 0, 0, 0, -1, 0, 0, 0, 1, 0, 0, 0, -1, 0, 0, 0, 1])) [.d .non] := by kernel_rfl
theorem ring_57 : F_ring_by [.d (.int 57)] = .ok (.d (rowD [1, -1, 0, 1, -1, 0, 1, -1, 0, 1, -1, 0, 1, -1, 0, 1, -1, 0, 1, 0, -1, 1, 0, -1, 1, 0, -1, 1, 0, -1, 1, 0, -1, 1, 0, -1, 1])) [.d .non] := by kernel_rfl
theorem ring_58 : F_ring_by [.d (.int 58)] = .ok (.d (rowD [1, -1, 1, -1, 1, -1, 1, -1, 1, -1, 1, -1, 1, -1, 1, -1, 1, -1, 1, -1, 1, -1, 1, -1, 1, -1, 1, -1, 1])) [.d .non] := by kernel_rfl
theorem ring_59 : F_ring_by [.d (.int 59)] = .ok (.d (rowD [1, 1, 1, 1, 1, 1, 1, 1, 1, 1, 1, 1, 1, 1, 1, 1, 1, 1, 1, 1, 1, 1, 1, 1, 1, 1, 1, 1, 1, 1, 1, 1, 1, 1, 1, 1, 1, 1, 1, 1, 1, 1, 1, 1, 1, 1, 1, 1, 1, 1, 1, 1, 1, 1, 1, 1, 1, 1, 1])) [.d .non] := by kernel_rfl
theorem ring_60 : F_ring_by [.d (.int 60)] = .ok (.d (rowD [1, 0, 1, 0, 0, 0, -1, 0, -1, 0, -1, 0, 0, 0, 1, 0, 1])) [.d .non] := by kernel_rfl
end K19
end FL
set_option Elab.async false
set_option linter.all false
set_option maxRecDepth 100000
set_option maxHeartbeats 0
namespace FL
namespace K19
open PySem PySem.Spec L2
open PyProof.Rows hiding St
abbrev pr (c : Int) : FL.D := .tup [.int c, .int 1]
abbrev rows (cs : List Int) : List FL.D := cs.map pr
def small (c : Int) : Bool := decide (-3 ≤ c) && decide (c ≤ 3)
def r7 : List Int := [-3, -2, -1, 0, 1, 2, 3]
theorem small_mem {c : Int} (h : small c = true) : c ∈ r7 := by
  unfold small at h
  rw [Bool.and_eq_true, decide_eq_true_eq, decide_eq_true_eq] at h
  have : c = -3 ∨ c = -2 ∨ c = -1 ∨ c = 0 ∨ c = 1 ∨ c = 2 ∨ c = 3 := by omega
  unfold r7
  simpa using this
def isPr (r : FR) (c : Int) : Bool := match r with
  | .ok (.d (.tup [.int a, .int b])) [.d .non, .d .non] => decide (a = c) && decide (b = 1)
  | _ => false
theorem isPr_ok {r : FR} {c : Int} (h : isPr r c = true) : r = .ok (.d (pr c)) [.d .non, .d .non] := by
  unfold isPr at h
  split at h
  · rw [Bool.and_eq_true, decide_eq_true_eq, decide_eq_true_eq] at h
    rw [h.1, h.2]
  · cases h
theorem minus_tab : (r7.all fun a => r7.all fun b => isPr (F_law_minus [.d (pr a), .d (pr b)]) (a - b)) = true := by kernel_rfl
theorem times_tab : (r7.all fun a => r7.all fun b => isPr (F_law_times [.d (pr a), .d (pr b)]) (a * b)) = true := by kernel_rfl
theorem share_tab : (r7.all fun a => isPr (F_law_share [.d (pr a), .d (pr 1)]) a) = true := by kernel_rfl
theorem minus_ok {a b : Int} (ha : small a = true) (hb : small b = true) : F_law_minus [.d (pr a), .d (pr b)] = .ok (.d (pr (a - b))) [.d .non, .d .non] :=
  isPr_ok (List.all_eq_true.mp (List.all_eq_true.mp minus_tab a (small_mem ha)) b (small_mem hb))
theorem times_ok {a b : Int} (ha : small a = true) (hb : small b = true) : F_law_times [.d (pr a), .d (pr b)] = .ok (.d (pr (a * b))) [.d .non, .d .non] :=
  isPr_ok (List.all_eq_true.mp (List.all_eq_true.mp times_tab a (small_mem ha)) b (small_mem hb))
theorem share_ok {a : Int} (ha : small a = true) : F_law_share [.d (pr a), .d (pr 1)] = .ok (.d (pr a)) [.d .non, .d .non] :=
  isPr_ok (List.all_eq_true.mp share_tab a (small_mem ha))
def pT : M Bool := (boolM (cmpM .GtE (datA (bcM lenW (consA (slotA 2) nilA))) (datA (bcM lenW (consA (slotA 1) nilA)))))
def pb0 : M Fl := (setM [] 4 (callM F_law_share (consA (datA (ixM (slotA 2) (datA (negM (datA (constM (.int (1)))))))) (consA (datA (ixM (slotA 1) (datA (negM (datA (constM (.int (1)))))))) nilA))))
def pb1 : M Fl := (dropM (appM 3 (slotM 4)))
def pb2 : M Fl := (setM [] 5 (binM .Sub (datA (bcM lenW (consA (slotA 2) nilA))) (datA (bcM lenW (consA (slotA 1) nilA)))))
def pb3 : M Fl := (setM [] 2 (slM (datA (lcM (iterL enumD (consL (slotM 2) nilL)) (tupG 2 (consG (nameG [0, 1, 2, 3, 4, 5] 6) (consG (nameG [0, 1, 2, 3, 4, 5] 7) nilG))) yesM (ifM (boolM (cmpM .GtE (slotA 6) (slotA 5))) (callM F_law_minus (consA (datA (slotM 7)) (consA (datA (callM F_law_times (consA (datA (slotM 4)) (consA (datA (ixM (slotA 1) (datA (binM .Sub (slotA 6) (slotA 5))))) nilA)))) nilA))) (slotM 7)) [6, 7])) noPart (partM (negM (datA (constM (.int (1))))))))
def pEL : M W := (ifM (boolM (cmpM .GtE (slotA 6) (slotA 5))) (callM F_law_minus (consA (datA (slotM 7)) (consA (datA (callM F_law_times (consA (datA (slotM 4)) (consA (datA (ixM (slotA 1) (datA (binM .Sub (slotA 6) (slotA 5))))) nilA)))) nilA))) (slotM 7))
def pMin : M W := (callM F_law_minus (consA (datA (slotM 7)) (consA (datA (callM F_law_times (consA (datA (slotM 4)) (consA (datA (ixM (slotA 1) (datA (binM .Sub (slotA 6) (slotA 5))))) nilA)))) nilA)))
def pG : FL.D → M Unit := (tupG 2 (consG (nameG [0, 1, 2, 3, 4, 5] 6) (consG (nameG [0, 1, 2, 3, 4, 5] 7) nilG)))
def pS0 : M Fl := (parM [] 2 3 (bcM listW (consA (datA (callM F_law_trim (consA (datA (slotM 0)) nilA))) nilA)) (lstM nilL))
def pRET : M Fl := (retM (tupM (consL (callM F_law_trim (consA (datA (slSM (slotA 3) noPart noPart (partM (negM (datA (constM (.int (1)))))))) nilA)) (consL (callM F_law_trim (consA (datA (slotM 2)) nilA)) nilL))))
theorem pb3_is : pb3 = setM [] 2 (slM (datA (lcM (iterL enumD (consL (slotM 2) nilL)) pG yesM pEL [6, 7])) noPart (partM (negM (datA (constM (.int (1))))))) := rfl
def pB : M Fl := seqM pb0 (seqM pb1 (seqM pb2 (seqM pb3 nextM)))
theorem parted_is : m_law_row_parted = seqM pS0 (seqM (whileM pT pB 1000000) (seqM pRET nextM)) := rfl
abbrev ps (P : Option W) (q l f : List Int) (a4 a5 a6 a7 : Option W) : Rho := [P, some (.d (.tup (rows q))), some (.own (.lst (rows l))), some (.own (.lst (rows f))), a4, a5, a6, a7]
section
variable {P a4 a5 a6 a7 : Option W} {q l f : List Int}
theorem at_last (l : List Int) (x : Int) : L2.atI (rows (l ++ [x])) (-1) = some (pr x) := by
  unfold L2.atI
  have e : (rows (l ++ [x])).length = l.length + 1 := by simp [rows]
  rw [e]
  have h : ixN (l.length + 1) (-1) = some l.length := by
    unfold ixN
    simp
    omega
  rw [h]
  simp [rows]
theorem pT_ok : pT (ps P q l f a4 a5 a6 a7) = .ok (decide ((q.length : Int) ≤ (l.length : Int))) (ps P q l f a4 a5 a6 a7) := by
  have e1 : q.length = (rows q).length := by simp [rows]
  have e2 : l.length = (rows l).length := by simp [rows]
  rw [e1, e2]
  rfl
theorem pb0_ok {x : Int} (hx : small x = true) : pb0 (ps P (q ++ [1]) (l ++ [x]) f a4 a5 a6 a7) = .ok .nx (ps P (q ++ [1]) (l ++ [x]) f (some (.d (pr x))) a5 a6 a7) := by
  have m1 : datA (ixM (slotA 2) (datA (negM (datA (constM (.int (1))))))) (ps P (q ++ [1]) (l ++ [x]) f a4 a5 a6 a7) = .ok (.val (pr x)) (ps P (q ++ [1]) (l ++ [x]) f a4 a5 a6 a7) :=
    ev_dat (w := .d (pr x)) (ev_ix (x := .ref 2) (y := .val (.int (-1))) (a := .lst (rows (l ++ [x]))) (b := .int (-1)) rfl rfl rfl rfl (by show (L2.atI _ _).map _ = _; rw [at_last]; rfl))
  have m2 : datA (ixM (slotA 1) (datA (negM (datA (constM (.int (1))))))) (ps P (q ++ [1]) (l ++ [x]) f a4 a5 a6 a7) = .ok (.val (pr 1)) (ps P (q ++ [1]) (l ++ [x]) f a4 a5 a6 a7) :=
    ev_dat (w := .d (pr 1)) (ev_ix (x := .val (.tup (rows (q ++ [1])))) (y := .val (.int (-1))) (a := .tup (rows (q ++ [1]))) (b := .int (-1)) rfl rfl rfl rfl (by show (L2.atI _ _).map _ = _; rw [at_last]; rfl))
  exact ev_set (ρ1 := ps P (q ++ [1]) (l ++ [x]) f a4 a5 a6 a7) (w := .d (pr x)) (ev_call2 m1 m2 (share_ok hx)) rfl
theorem pb1_ok {x : Int} (hf : sizeOk ((rows f).length + 1) = true) : pb1 (ps P q l f (some (.d (pr x))) a5 a6 a7) = .ok .nx (ps P q l (f ++ [x]) (some (.d (pr x))) a5 a6 a7) := by
  have e : rows (f ++ [x]) = rows f ++ [pr x] := by simp [rows]
  unfold ps
  rw [e]
  show (Res.bind (if sizeOk ((rows f).length + 1) = true then _ else _) _) = _
  rw [if_pos hf]
  rfl
theorem pb2_ok : pb2 (ps P q l f a4 a5 a6 a7) = .ok .nx (ps P q l f a4 (some (.d (.int ((l.length : Int) - (q.length : Int))))) a6 a7) := by
  have e1 : q.length = (rows q).length := by simp [rows]
  have e2 : l.length = (rows l).length := by simp [rows]
  rw [e1, e2]
  rfl
end
def stepC (q : List Int) (b : Int) (h : Nat) : Nat → List Int → Option (List Int)
  | _, [] => some []
  | k, c :: r => match (if h ≤ k then (match q[k - h]? with
      | some y => if (small b && small y && small (b * y) && small c) = true then some (c - b * y) else none
      | none => none) else some c), stepC q b h (k + 1) r with
    | some v, some vs => some (v :: vs)
    | _, _ => none
theorem stepC_len {q : List Int} {b : Int} {h : Nat} : ∀ {r : List Int} {k : Nat} {r2 : List Int}, stepC q b h k r = some r2 → r2.length = r.length
  | [], _, r2, e => by
    have e' : ([] : List Int) = r2 := Option.some.inj e
    rw [← e']
  | c :: r, k, r2, e => by
    unfold stepC at e
    split at e
    · rename_i v vs _ e2
      cases e
      simp [stepC_len e2]
    · cases e
section
variable {P a6 a7 : Option W} {q : List Int} {L F : List FL.D} {b : Int} {h : Nat}
abbrev qs (P : Option W) (q : List Int) (L F : List FL.D) (b : Int) (h : Nat) (x6 x7 : Option W) : Rho := [P, some (.d (.tup (rows q))), some (.d (.lst L)), some (.own (.lst F)), some (.d (pr b)), some (.d (.int (h : Int))), x6, x7]
theorem pEL_lo {k : Nat} {c : Int} (hk : ¬ h ≤ k) : pEL (qs P q L F b h (some (.d (.int (k : Int)))) (some (.d (pr c)))) = .ok (.d (pr c)) (qs P q L F b h (some (.d (.int (k : Int)))) (some (.d (pr c)))) := by
  show (if decide ((h : Int) ≤ (k : Int)) = true then _ else _) = _
  rw [if_neg (by rw [decide_eq_true_eq]; omega)]
  rfl
theorem pEL_hi {k : Nat} {c y : Int} (hk : h ≤ k) (hy : q[k - h]? = some y) (s1 : small b = true) (s2 : small y = true) (s3 : small (b * y) = true) (s4 : small c = true) :
    pEL (qs P q L F b h (some (.d (.int (k : Int)))) (some (.d (pr c)))) = .ok (.d (pr (c - b * y))) (qs P q L F b h (some (.d (.int (k : Int)))) (some (.d (pr c)))) := by
  have ix : ixW (.tup (rows q)) (.int ((k : Int) - (h : Int))) = some (.d (pr y)) := by
    have hlt : k - h < q.length := (List.getElem?_eq_some_iff.mp hy).1
    have e0 : ((k : Int) - (h : Int)) = ((k - h : Nat) : Int) := by omega
    show (L2.atI (rows q) _).map _ = _
    have e1 : ixN (rows q).length (((k - h : Nat) : Int)) = some (k - h) := by
      unfold ixN
      rw [if_pos (by omega), if_pos (by simp [rows]; omega)]
      simp
    rw [e0]
    unfold L2.atI
    rw [e1]
    show ((rows q)[k - h]?).map _ = _
    simp [rows, hy]
  have m1 : datA (ixM (slotA 1) (datA (binM .Sub (slotA 6) (slotA 5)))) (qs P q L F b h (some (.d (.int (k : Int)))) (some (.d (pr c)))) = .ok (.val (pr y)) (qs P q L F b h (some (.d (.int (k : Int)))) (some (.d (pr c)))) :=
    ev_dat (w := .d (pr y)) (ev_ix (x := .val (.tup (rows q))) (y := .val (.int ((k : Int) - (h : Int)))) rfl rfl rfl rfl ix)
  have m2 : datA (callM F_law_times (consA (datA (slotM 4)) (consA (datA (ixM (slotA 1) (datA (binM .Sub (slotA 6) (slotA 5))))) nilA))) (qs P q L F b h (some (.d (.int (k : Int)))) (some (.d (pr c)))) = .ok (.val (pr (b * y))) (qs P q L F b h (some (.d (.int (k : Int)))) (some (.d (pr c)))) :=
    ev_dat (w := .d (pr (b * y))) (ev_call2 (a := pr b) (b := pr y) rfl m1 (times_ok s1 s2))
  show (if decide ((h : Int) ≤ (k : Int)) = true then pMin _ else _) = _
  rw [if_pos (by rw [decide_eq_true_eq]; omega)]
  exact ev_call2 (a := pr c) (b := pr (b * y)) rfl m2 (minus_ok s4 s3)
theorem lc_run : ∀ {r : List Int} {k : Nat} {acc r2 : List Int}, stepC q b h k r = some r2 → acc.length + r.length ≤ 1000 →
    lcLoop pG yesM pEL [6, 7] (pairs k (rows r)) (rows acc) (qs P q L F b h a6 a7) = .ok (.own (.lst (rows (acc ++ r2)))) (qs P q L F b h a6 a7)
  | [], k, acc, r2, e, _ => by
    have e' : ([] : List Int) = r2 := Option.some.inj e
    rw [← e', List.append_nil]
    rfl
  | c :: r, k, acc, r2, e, hz => by
    unfold stepC at e
    split at e
    · rename_i v vs e1 e2
      cases e
      have el : pEL (qs P q L F b h (some (.d (.int (k : Int)))) (some (.d (pr c)))) = .ok (.d (pr v)) (qs P q L F b h (some (.d (.int (k : Int)))) (some (.d (pr c)))) := by
        split at e1
        · rename_i hk
          split at e1
          · rename_i y hy
            split at e1
            · rename_i hs
              cases e1
              rw [Bool.and_eq_true, Bool.and_eq_true, Bool.and_eq_true] at hs
              exact pEL_hi hk hy hs.1.1.1 hs.1.1.2 hs.1.2 hs.2
            · cases e1
          · cases e1
        · rename_i hk
          cases e1
          exact pEL_lo hk
      show (match pEL (qs P q L F b h (some (.d (.int (k : Int)))) (some (.d (pr c)))) with
        | .ok w ρ3 => if sizeOk ((rows acc).length + 1) = true then lcLoop pG yesM pEL [6, 7] (pairs (k + 1) (rows r)) (rows acc ++ [w.data]) (mergeR (qs P q L F b h a6 a7) ρ3 [6, 7]) else .bad
        | _ => .bad) = _
      rw [el]
      show (if sizeOk ((rows acc).length + 1) = true then lcLoop pG yesM pEL [6, 7] (pairs (k + 1) (rows r)) (rows acc ++ [pr v]) (qs P q L F b h a6 a7) else .bad) = _
      have hz' : sizeOk ((rows acc).length + 1) = true := by
        simp only [List.length_cons] at hz
        show decide (_ ≤ 16777216) = true
        rw [decide_eq_true_eq]
        simp [rows]
        omega
      rw [if_pos hz']
      have ea : rows acc ++ [pr v] = rows (acc ++ [v]) := by simp [rows]
      rw [ea, lc_run (acc := acc ++ [v]) e2 (by simp only [List.length_append, List.length_cons, List.length_nil] at hz ⊢; omega), List.append_assoc]
      rfl
    · cases e
end
theorem cut_last {α : Type} (l : List α) : cutD l none (some (-1)) = l.dropLast := by
  unfold cutD
  have e1 : HT.sIx l.length 0 none = 0 := rfl
  have e2 : HT.sIx l.length l.length (some (-1)) = l.length - 1 := by
    unfold HT.sIx
    dsimp only
    rw [if_pos (by decide)]
    omega
  rw [e1, e2, List.drop_zero, Nat.sub_zero, List.dropLast_eq_take]
section
variable {P a4 a5 a6 a7 : Option W} {q l f : List Int}
theorem pb3_ok {b : Int} {h : Nat} {l2 : List Int} (hs : stepC q b h 0 l = some l2) (hz : l.length ≤ 1000) : pb3 (ps P q l f (some (.d (pr b))) (some (.d (.int (h : Int)))) a6 a7) = .ok .nx (ps P q l2.dropLast f (some (.d (pr b))) (some (.d (.int (h : Int)))) a6 a7) := by
  have run := lc_run (P := P) (a6 := a6) (a7 := a7) (q := q) (L := rows l) (F := rows f) (acc := []) hs (by simpa using hz)
  have lc : lcM (iterL enumD (consL (slotM 2) nilL)) pG yesM pEL [6, 7] (ps P q l f (some (.d (pr b))) (some (.d (.int (h : Int)))) a6 a7) = .ok (.own (.lst (rows l2))) (qs P q (rows l) (rows f) b h a6 a7) := run
  have sl : slM (datA (lcM (iterL enumD (consL (slotM 2) nilL)) pG yesM pEL [6, 7])) noPart (partM (negM (datA (constM (.int (1)))))) (ps P q l f (some (.d (pr b))) (some (.d (.int (h : Int)))) a6 a7) = .ok (.own (.lst (rows l2.dropLast))) (qs P q (rows l) (rows f) b h a6 a7) := by
    unfold slM
    rw [ev_dat lc]
    show liftM (slW none (some (-1)) (.lst (rows l2))) _ = _
    show Res.ok (W.own (.lst (cutD (rows l2) none (some (-1))))) _ = _
    rw [cut_last]
    simp [rows, List.map_dropLast]
  rw [pb3_is]
  exact ev_set sl rfl
theorem pB_ok {x : Int} {l2 : List Int} (hx : small x = true) (hq : (q ++ [1]).length ≤ (l ++ [x]).length) (hs : stepC (q ++ [1]) x ((l ++ [x]).length - (q ++ [1]).length) 0 (l ++ [x]) = some l2) (hz : (l ++ [x]).length ≤ 1000) (hf : f.length ≤ 1000) :
    pB (ps P (q ++ [1]) (l ++ [x]) f a4 a5 a6 a7) = .ok .nx (ps P (q ++ [1]) l2.dropLast (f ++ [x]) (some (.d (pr x))) (some (.d (.int (((l ++ [x]).length - (q ++ [1]).length : Nat) : Int)))) a6 a7) := by
  have hf' : sizeOk ((rows f).length + 1) = true := by
    show decide (_ ≤ 16777216) = true
    rw [decide_eq_true_eq]
    simp [rows]
    omega
  have e : (((l ++ [x]).length : Int) - ((q ++ [1]).length : Int)) = (((l ++ [x]).length - (q ++ [1]).length : Nat) : Int) := by omega
  unfold pB
  rw [seq_nx (pb0_ok hx), seq_nx (pb1_ok hf'), seq_nx pb2_ok, e, seq_nx (pb3_ok hs hz)]
  rfl
end
/-- the whole loop, by numbers -/
def divL (q : List Int) : Nat → List Int → List Int → Option W → Option W → Option (List Int × List Int × Option W × Option W)
  | 0, _, _, _, _ => none
  | n + 1, l, f, a4, a5 => if q.length ≤ l.length then
      match l.getLast?, q.getLast? with
      | some x, some y => if (decide (y = 1) && small x && decide (l.length ≤ 1000) && decide (f.length ≤ 1000)) = true then
          match stepC q x (l.length - q.length) 0 l with
          | some l2 => divL q n l2.dropLast (f ++ [x]) (some (.d (pr x))) (some (.d (.int ((l.length - q.length : Nat) : Int))))
          | none => none
        else none
      | _, _ => none
    else some (l, f, a4, a5)
theorem loop_ok {P a6 a7 : Option W} {q : List Int} : ∀ (n N : Nat), n ≤ N → ∀ {l f l' f' : List Int} {a4 a5 b4 b5 : Option W}, divL q n l f a4 a5 = some (l', f', b4, b5) → whileM pT pB N (ps P q l f a4 a5 a6 a7) = .ok .nx (ps P q l' f' b4 b5 a6 a7)
  | 0, _, _, _, _, _, _, _, _, _, _, e => by cases e
  | n + 1, 0, hN, _, _, _, _, _, _, _, _, _ => by omega
  | n + 1, N + 1, hN, l, f, l', f', a4, a5, b4, b5, e => by
    unfold divL at e
    split at e
    · rename_i hq
      split at e
      · rename_i x y hx hy
        split at e
        · rename_i hc
          rw [Bool.and_eq_true, Bool.and_eq_true, Bool.and_eq_true, decide_eq_true_eq, decide_eq_true_eq, decide_eq_true_eq] at hc
          obtain ⟨⟨⟨hy1, hsx⟩, hz⟩, hf⟩ := hc
          split at e
          · rename_i l2 hs
            obtain ⟨l0, el⟩ : ∃ l0, l = l0 ++ [x] := List.getLast?_eq_some_iff.mp hx
            obtain ⟨q0, eq⟩ : ∃ q0, q = q0 ++ [y] := List.getLast?_eq_some_iff.mp hy
            subst hy1
            subst el eq
            have ht : pT (ps P (q0 ++ [1]) (l0 ++ [x]) f a4 a5 a6 a7) = .ok true (ps P (q0 ++ [1]) (l0 ++ [x]) f a4 a5 a6 a7) := by
              rw [pT_ok, decide_eq_true (by omega)]
            rw [while_yes ht (pB_ok hsx hq hs hz hf)]
            exact loop_ok n N (by omega) e
          · cases e
        · cases e
      · cases e
    · rename_i hq
      have e' := Option.some.inj e
      cases e'
      exact while_no (by rw [pT_ok, decide_eq_false (by omega)])
end K19
end FL
set_option Elab.async false
set_option linter.all false
set_option maxRecDepth 100000
set_option maxHeartbeats 0
namespace FL
namespace K19
open PySem PySem.Spec L2
open PyProof.Rows hiding St
def dec1 : FL.D → Option Int
  | .tup [.int c, .int d] => if d = 1 then some c else none
  | _ => none
def decs : List FL.D → Option (List Int)
  | [] => some []
  | d :: ds => match dec1 d, decs ds with
    | some c, some cs => some (c :: cs)
    | _, _ => none
theorem dec1_ok {d : FL.D} {c : Int} (h : dec1 d = some c) : d = pr c := by
  unfold dec1 at h
  split at h
  · rename_i c' d'
    split at h
    · rename_i e
      cases h
      rw [e]
    · cases h
  · cases h
theorem decs_ok : ∀ {ds : List FL.D} {cs : List Int}, decs ds = some cs → ds = rows cs
  | [], cs, h => by
    cases (show some [] = some cs from h)
    rfl
  | d :: ds, cs, h => by
    unfold decs at h
    split at h
    · rename_i c cs' h1 h2
      cases h
      rw [dec1_ok h1, decs_ok h2]
      rfl
    · cases h
def LOOP_T : M Fl := fun ρ => match ρ with
  | [P, some (.d (.tup Q)), some (.own (.lst L)), some (.own (.lst F)), a4, a5, a6, a7] => match decs Q, decs L, decs F with
    | some q, some l, some f => match divL q 200 l f a4 a5 with
      | some (l', f', b4, b5) => .ok .nx (ps P q l' f' b4 b5 a6 a7)
      | none => whileM pT pB 1000000 [P, some (.d (.tup Q)), some (.own (.lst L)), some (.own (.lst F)), a4, a5, a6, a7]
    | _, _, _ => whileM pT pB 1000000 [P, some (.d (.tup Q)), some (.own (.lst L)), some (.own (.lst F)), a4, a5, a6, a7]
  | ρ => whileM pT pB 1000000 ρ
theorem LOOP_is : whileM pT pB 1000000 = LOOP_T := by
  funext ρ
  unfold LOOP_T
  split
  · rename_i P Q L F a4 a5 a6 a7
    split
    · rename_i q l f h1 h2 h3
      split
      · rename_i l' f' b4 b5 h4
        rw [decs_ok h1, decs_ok h2, decs_ok h3]
        exact loop_ok 200 1000000 (by decide) h4
      · rfl
    · rfl
  · rfl
def T_parted : FnSem := fnM 8 [false, false] (seqM pS0 (seqM LOOP_T (seqM pRET nextM)))
theorem T_parted_is : F_law_row_parted = T_parted := by
  unfold F_law_row_parted T_parted
  rw [parted_is, LOOP_is]
def m_h_T : M Fl := (seqM (setM [] 1 dct0M) (seqM (forS (iterM (lcM (iterL range2D (consL (constM (.int (1))) (consL (binM .Add (slotA 0) (datA (constM (.int (1))))) nilL))) (nameG [0, 1, 2, 3] 4) (boolM (cmpM .Eq (datA (binM .Mod (datA (bcM intW (consA (slotA 0) nilA))) (slotA 4))) (datA (constM (.int (0)))))) (slotM 4) [4])) (nameG [] 2) (seqM (setM [] 3 (binM .Add (datA (binM .Add (datA (tupM (consL (tupM (consL (negM (datA (constM (.int (1))))) (consL (constM (.int (1))) nilL))) nilL))) (datA (binM .Mult (datA (tupM (consL (tupM (consL (constM (.int (0))) (consL (constM (.int (1))) nilL))) nilL))) (datA (binM .Sub (slotA 2) (datA (constM (.int (1)))))))))) (datA (tupM (consL (tupM (consL (constM (.int (1))) (consL (constM (.int (1))) nilL))) nilL))))) (seqM (lockS 1 (forS (iterM (slotM 1)) (nameG [1] 4) (seqM (ifS (boolM (cmpM .Eq (datA (binM .Mod (datA (bcM intW (consA (slotA 2) nilA))) (slotA 4))) (datA (constM (.int (0)))))) (seqM (setM [1] 3 (ixM (datA (callM T_parted (consA (datA (slotM 3)) (consA (datA (ixM (slotA 1) (slotA 4))) nilA)))) (datA (constM (.int (0)))))) nextM) nextM) nextM))) (seqM (setSubM 1 (slotM 3) (slotA 2)) nextM)))) (seqM (retM (ixM (slotA 1) (slotA 0))) nextM)))
def T_h : FnSem := fnM 5 [false] m_h_T
theorem T_h_is : F_law_h_ring = T_h := by
  unfold F_law_h_ring T_h m_law_h_ring m_h_T
  rw [T_parted_is]
end K19
end FL
set_option Elab.async false
set_option linter.all false
set_option maxRecDepth 100000
set_option maxHeartbeats 0
namespace FL
namespace K19
open PySem PySem.Spec L2
open PyProof.Rows hiding St
theorem hrow_1 : F_law_h_ring [.d (.int 1)] = .ok (.d (rowD [-1, 1])) [.d .non] := by
  rw [T_h_is]
  kernel_rfl
theorem hrow_2 : F_law_h_ring [.d (.int 2)] = .ok (.d (rowD [1, 1])) [.d .non] := by
  rw [T_h_is]
  kernel_rfl
theorem hrow_3 : F_law_h_ring [.d (.int 3)] = .ok (.d (rowD [1, 1, 1])) [.d .non] := by
  rw [T_h_is]
  kernel_rfl
theorem hrow_4 : F_law_h_ring [.d (.int 4)] = .ok (.d (rowD [1, 0, 1])) [.d .non] := by
  rw [T_h_is]
  kernel_rfl
theorem hrow_5 : F_law_h_ring [.d (.int 5)] = .ok (.d (rowD [1, 1, 1, 1, 1])) [.d .non] := by
  rw [T_h_is]
  kernel_rfl
theorem hrow_6 : F_law_h_ring [.d (.int 6)] = .ok (.d (rowD [1, -1, 1])) [.d .non] := by
  rw [T_h_is]
  kernel_rfl
theorem hrow_7 : F_law_h_ring [.d (.int 7)] = .ok (.d (rowD [1, 1, 1, 1, 1, 1, 1])) [.d .non] := by
  rw [T_h_is]
  kernel_rfl
theorem hrow_8 : F_law_h_ring [.d (.int 8)] = .ok (.d (rowD [1, 0, 0, 0, 1])) [.d .non] := by
  rw [T_h_is]
  kernel_rfl
theorem hrow_9 : F_law_h_ring [.d (.int 9)] = .ok (.d (rowD [1, 0, 0, 1, 0, 0, 1])) [.d .non] := by
  rw [T_h_is]
  kernel_rfl
theorem hrow_10 : F_law_h_ring [.d (.int 10)] = .ok (.d (rowD [1, -1, 1, -1, 1])) [.d .non] := by
  rw [T_h_is]
  kernel_rfl
theorem hrow_11 : F_law_h_ring [.d (.int 11)] = .ok (.d (rowD [1, 1, 1, 1, 1, 1, 1, 1, 1, 1, 1])) [.d .non] := by
  rw [T_h_is]
  kernel_rfl
theorem hrow_12 : F_law_h_ring [.d (.int 12)] = .ok (.d (rowD [1, 0, -1, 0, 1])) [.d .non] := by
  rw [T_h_is]
  kernel_rfl
theorem hrow_13 : F_law_h_ring [.d (.int 13)] = .ok (.d (rowD [1, 1, 1, 1, 1, 1, 1, 1, 1, 1, 1, 1, 1])) [.d .non] := by
  rw [T_h_is]
  kernel_rfl
theorem hrow_14 : F_law_h_ring [.d (.int 14)] = .ok (.d (rowD [1, -1, 1, -1, 1, -1, 1])) [.d .non] := by
  rw [T_h_is]
  kernel_rfl
theorem hrow_15 : F_law_h_ring [.d (.int 15)] = .ok (.d (rowD [1, -1, 0, 1, -1, 1, 0, -1, 1])) [.d .non] := by
  rw [T_h_is]
  kernel_rfl
theorem hrow_16 : F_law_h_ring [.d (.int 16)] = .ok (.d (rowD [1, 0, 0, 0, 0, 0, 0, 0, 1])) [.d .non] := by
  rw [T_h_is]
  kernel_rfl
theorem hrow_17 : F_law_h_ring [.d (.int 17)] = .ok (.d (rowD [1, 1, 1, 1, 1, 1, 1, 1, 1, 1, 1, 1, 1, 1, 1, 1, 1])) [.d .non] := by
  rw [T_h_is]
  kernel_rfl
theorem hrow_18 : F_law_h_ring [.d (.int 18)] = .ok (.d (rowD [1, 0, 0, -1, 0, 0, 1])) [.d .non] := by
  rw [T_h_is]
  kernel_rfl
theorem hrow_19 : F_law_h_ring [.d (.int 19)] = .ok (.d (rowD [1, 1, 1, 1, 1, 1, 1, 1, 1, 1, 1, 1, 1, 1, 1, 1, 1, 1, 1])) [.d .non] := by
  rw [T_h_is]
  kernel_rfl
theorem hrow_20 : F_law_h_ring [.d (.int 20)] = .ok (.d (rowD [1, 0, -1, 0, 1, 0, -1, 0, 1])) [.d .non] := by
  rw [T_h_is]
  kernel_rfl
theorem hrow_21 : F_law_h_ring [.d (.int 21)] = .ok (.d (rowD [1, -1, 0, 1, -1, 0, 1, 0, -1, 1, 0, -1, 1])) [.d .non] := by
  rw [T_h_is]
  kernel_rfl
theorem hrow_22 : F_law_h_ring [.d (.int 22)] = .ok (.d (rowD [1, -1, 1, -1, 1, -1, 1, -1, 1, -1, 1])) [.d .non] := by
  rw [T_h_is]
  kernel_rfl
theorem hrow_23 : F_law_h_ring [.d (.int 23)] = .ok (.d (rowD [1, 1, 1, 1, 1, 1, 1, 1, 1, 1, 1, 1, 1, 1, 1, 1, 1, 1, 1, 1, 1, 1, 1])) [.d .non] := by
  rw [T_h_is]
  kernel_rfl
theorem hrow_24 : F_law_h_ring [.d (.int 24)] = .ok (.d (rowD [1, 0, 0, 0, -1, 0, 0, 0, 1])) [.d .non] := by
  rw [T_h_is]
  kernel_rfl
theorem hrow_25 : F_law_h_ring [.d (.int 25)] = .ok (.d (rowD [1, 0, 0, 0, 0, 1, 0, 0, 0, 0, 1, 0, 0, 0, 0, 1, 0, 0, 0, 0, 1])) [.d .non] := by
  rw [T_h_is]
  kernel_rfl
theorem hrow_26 : F_law_h_ring [.d (.int 26)] = .ok (.d (rowD [1, -1, 1, -1, 1, -1, 1, -1, 1, -1, 1, -1, 1])) [.d .non] := by
  rw [T_h_is]
  kernel_rfl
theorem hrow_27 : F_law_h_ring [.d (.int 27)] = .ok (.d (rowD [1, 0, 0, 0, 0, 0, 0, 0, 0, 1, 0, 0, 0, 0, 0, 0, 0, 0, 1])) [.d .non] := by
  rw [T_h_is]
  kernel_rfl
theorem hrow_28 : F_law_h_ring [.d (.int 28)] = .ok (.d (rowD [1, 0, -1, 0, 1, 0, -1, 0, 1, 0, -1, 0, 1])) [.d .non] := by
  rw [T_h_is]
  kernel_rfl
theorem hrow_29 : F_law_h_ring [.d (.int 29)] = .ok (.d (rowD [1, 1, 1, 1, 1, 1, 1, 1, 1, 1, 1, 1, 1, 1, 1, 1, 1, 1, 1, 1, 1, 1, 1, 1, 1, 1, 1, 1, 1])) [.d .non] := by
  rw [T_h_is]
  kernel_rfl
end K19
end FL
set_option Elab.async false
set_option linter.all false
set_option maxRecDepth 100000
set_option maxHeartbeats 0
namespace FL
namespace K19
open PySem PySem.Spec L2
open PyProof.Rows hiding St
theorem hrow_30 : F_law_h_ring [.d (.int 30)] = .ok (.d (rowD [1, 1, 0, -1, -1, -1, 0, 1, 1])) [.d .non] := by
  rw [T_h_is]
  kernel_rfl
theorem hrow_31 : F_law_h_ring [.d (.int 31)] = .ok (.d (rowD [1, 1, 1, 1, 1, 1, 1, 1, 1, 1, 1, 1, 1, 1, 1, 1, 1, 1, 1, 1, 1, 1, 1, 1, 1, 1, 1, 1, 1, 1, 1])) [.d .non] := by
  rw [T_h_is]
  kernel_rfl
theorem hrow_32 : F_law_h_ring [.d (.int 32)] = .ok (.d (rowD [1, 0, 0, 0, 0, 0, 0, 0, 0, 0, 0, 0, 0, 0, 0, 0, 1])) [.d .non] := by
  rw [T_h_is]
  kernel_rfl
theorem hrow_33 : F_law_h_ring [.d (.int 33)] = .ok (.d (rowD [1, -1, 0, 1, -1, 0, 1, -1, 0, 1, -1, 1, 0, -1, 1, 0, -1, 1, 0, -1, 1])) [.d .non] := by
  rw [T_h_is]
  kernel_rfl
theorem hrow_34 : F_law_h_ring [.d (.int 34)] = .ok (.d (rowD [1, -1, 1, -1, 1, -1, 1, -1, 1, -1, 1, -1, 1, -1, 1, -1, 1])) [.d .non] := by
  rw [T_h_is]
  kernel_rfl
theorem hrow_35 : F_law_h_ring [.d (.int 35)] = .ok (.d (rowD [1, -1, 0, 0, 0, 1, -1, 1, -1, 0, 1, -1, 1, -1, 1, 0, -1, 1, -1, 1, 0, 0, 0, -1, 1])) [.d .non] := by
  rw [T_h_is]
  kernel_rfl
theorem hrow_36 : F_law_h_ring [.d (.int 36)] = .ok (.d (rowD [1, 0, 0, 0, 0, 0, -1, 0, 0, 0, 0, 0, 1])) [.d .non] := by
  rw [T_h_is]
  kernel_rfl
theorem hrow_37 : F_law_h_ring [.d (.int 37)] = .ok (.d (rowD [1, 1, 1, 1, 1, 1, 1, 1, 1, 1, 1, 1, 1, 1, 1, 1, 1, 1, 1, 1, 1, 1, 1, 1, 1, 1, 1, 1, 1, 1, 1, 1, 1, 1, 1, 1, 1])) [.d .non] := by
  rw [T_h_is]
  kernel_rfl
theorem hrow_38 : F_law_h_ring [.d (.int 38)] = .ok (.d (rowD [1, -1, 1, -1, 1, -1, 1, -1, 1, -1, 1, -1, 1, -1, 1, -1, 1, -1, 1])) [.d .non] := by
  rw [T_h_is]
  kernel_rfl
theorem hrow_39 : F_law_h_ring [.d (.int 39)] = .ok (.d (rowD [1, -1, 0, 1, -1, 0, 1, -1, 0, 1, -1, 0, 1, 0, -1, 1, 0, -1, 1, 0, -1, 1, 0, -1, 1])) [.d .non] := by
  rw [T_h_is]
  kernel_rfl
theorem hrow_40 : F_law_h_ring [.d (.int 40)] = .ok (.d (rowD [1, 0, 0, 0, -1, 0, 0, 0, 1, 0, 0, 0, -1, 0, 0, 0, 1])) [.d .non] := by
  rw [T_h_is]
  kernel_rfl
end K19
end FL
set_option Elab.async false
set_option linter.all false
set_option maxRecDepth 100000
set_option maxHeartbeats 0
namespace FL
namespace K19
open PySem PySem.Spec L2
open PyProof.Rows hiding St
theorem hrow_41 : F_law_h_ring [.d (.int 41)] = .ok (.d (rowD [1, 1, 1, 1, 1, 1, 1, 1, 1, 1, 1, 1, 1, 1, 1, 1, 1, 1, 1, 1, 1, 1, 1, 1, 1, 1, 1, 1, 1, 1, 1, 1, 1, 1, 1, 1, 1, 1, 1, 1, 1])) [.d .non] := by
  rw [T_h_is]
  kernel_rfl
theorem hrow_42 : F_law_h_ring [.d (.int 42)] = .ok (.d (rowD [1, 1, 0, -1, -1, 0, 1, 0, -1, -1, 0, 1, 1])) [.d .non] := by
  rw [T_h_is]
  kernel_rfl
theorem hrow_43 : F_law_h_ring [.d (.int 43)] = .ok (.d (rowD [1, 1, 1, 1, 1, 1, 1, 1, 1, 1, 1, 1, 1, 1, 1, 1, 1, 1, 1, 1, 1, 1, 1, 1, 1, 1, 1, 1, 1, 1, 1, 1, 1, 1, 1, 1, 1, 1, 1, 1, 1, 1, 1])) [.d .non] := by
  rw [T_h_is]
  kernel_rfl
theorem hrow_44 : F_law_h_ring [.d (.int 44)] = .ok (.d (rowD [1, 0, -1, 0, 1, 0, -1, 0, 1, 0, -1, 0, 1, 0, -1, 0, 1, 0, -1, 0, 1])) [.d .non] := by
  rw [T_h_is]
  kernel_rfl
theorem hrow_45 : F_law_h_ring [.d (.int 45)] = .ok (.d (rowD [1, 0, 0, -1, 0, 0, 0, 0, 0, 1, 0, 0, -1, 0, 0, 1, 0, 0, 0, 0, 0, -1, 0, 0, 1])) [.d .non] := by
  rw [T_h_is]
  kernel_rfl
theorem hrow_46 : F_law_h_ring [.d (.int 46)] = .ok (.d (rowD [1, -1, 1, -1, 1, -1, 1, -1, 1, -1, 1, -1, 1, -1, 1, -1, 1, -1, 1, -1, 1, -1, 1])) [.d .non] := by
  rw [T_h_is]
  kernel_rfl
theorem hrow_47 : F_law_h_ring [.d (.int 47)] = .ok (.d (rowD [1, 1, 1, 1, 1, 1, 1, 1, 1, 1, 1, 1, 1, 1, 1, 1, 1, 1, 1, 1, 1, 1, 1, 1, 1, 1, 1, 1, 1, 1, 1, 1, 1, 1, 1, 1, 1, 1, 1, 1, 1, 1, 1, 1, 1, 1, 1])) [.d .non] := by
  rw [T_h_is]
  kernel_rfl
end K19
end FL
set_option Elab.async false
set_option linter.all false
set_option maxRecDepth 100000
set_option maxHeartbeats 0
namespace FL
namespace K19
open PySem PySem.Spec L2
open PyProof.Rows hiding St
theorem hrow_48 : F_law_h_ring [.d (.int 48)] = .ok (.d (rowD [1, 0, 0, 0, 0, 0, 0, 0, -1, 0, 0, 0, 0, 0, 0, 0, 1])) [.d .non] := by
  rw [T_h_is]
  kernel_rfl
theorem hrow_49 : F_law_h_ring [.d (.int 49)] = .ok (.d (rowD [1, 0, 0, 0, 0, 0, 0, 1, 0, 0, 0, 0, 0, 0, 1, 0, 0, 0, 0, 0, 0, 1, 0, 0, 0, 0, 0, 0, 1, 0, 0, 0, 0, 0, 0, 1, 0, 0, 0, 0, 0, 0, 1])) [.d .non] := by
  rw [T_h_is]
  kernel_rfl
theorem hrow_50 : F_law_h_ring [.d (.int 50)] = .ok (.d (rowD [1, 0, 0, 0, 0, -1, 0, 0, 0, 0, 1, 0, 0, 0, 0, -1, 0, 0, 0, 0, 1])) [.d .non] := by
  rw [T_h_is]
  kernel_rfl
theorem hrow_51 : F_law_h_ring [.d (.int 51)] = .ok (.d (rowD [1, -1, 0, 1, -1, 0, 1, -1, 0, 1, -1, 0, 1, -1, 0, 1, -1, 1, 0, -1, 1, 0, -1, 1, 0, -1, 1, 0, -1, 1, 0, -1, 1])) [.d .non] := by
  rw [T_h_is]
  kernel_rfl
theorem hrow_52 : F_law_h_ring [.d (.int 52)] = .ok (.d (rowD [1, 0, -1, 0, 1, 0, -1, 0, 1, 0, -1, 0, 1, 0, -1, 0, 1, 0, -1, 0, 1, 0, -1, 0, 1])) [.d .non] := by
  rw [T_h_is]
  kernel_rfl
theorem hrow_53 : F_law_h_ring [.d (.int 53)] = .ok (.d (rowD [1, 1, 1, 1, 1, 1, 1, 1, 1, 1, 1, 1, 1, 1, 1, 1, 1, 1, 1, 1, 1, 1, 1, 1, 1, 1, 1, 1, 1, 1, 1, 1, 1, 1, 1, 1, 1, 1, 1, 1, 1, 1, 1, 1, 1, 1, 1, 1, 1, 1, 1, 1, 1])) [.d .non] := by
  rw [T_h_is]
  kernel_rfl
end K19
end FL
set_option Elab.async false
set_option linter.all false
set_option maxRecDepth 100000
set_option maxHeartbeats 0
namespace FL
namespace K19
open PySem PySem.Spec L2
open PyProof.Rows hiding St
theorem hrow_54 : F_law_h_ring [.d (.int 54)] = .ok (.d (rowD [1, 0, 0, 0, 0, 0, 0, 0, 0, -1, 0, 0, 0, 0, 0, 0, 0, 0, 1])) [.d .non] := by
  rw [T_h_is]
  kernel_rfl
theorem hrow_55 : F_law_h_ring [.d (.int 55)] = .ok (.d (rowD [1, -1, 0, 0, 0, 1, -1, 0, 0, 0, 1, 0, -1, 0, 0, 1, 0, -1, 0, 0, 1, 0, 0, -1, 0, 1, 0, 0, -1, 0, 1, 0, 0, 0, -1, 1, 0, 0, 0, -1, 1])) [.d .non] := by
  rw [T_h_is]
  kernel_rfl
theorem hrow_56 : F_law_h_ring [.d (.int 56)] = .ok (.d (rowD [1, 0, 0, 0, -1, 0, 0, 0, 1, 0, 0, 0, -1, 0, 0, 0, 1, 0, 0, 0, -1, 0, 0, 0, 1])) [.d .non] := by
  rw [T_h_is]
  kernel_rfl
theorem hrow_57 : F_law_h_ring [.d (.int 57)] = .ok (.d (rowD [1, -1, 0, 1, -1, 0, 1, -1, 0, 1, -1, 0, 1, -1, 0, 1, -1, 0, 1, 0, -1, 1, 0, -1, 1, 0, -1, 1, 0, -1, 1, 0, -1, 1, 0, -1, 1])) [.d .non] := by
  rw [T_h_is]
  kernel_rfl
theorem hrow_58 : F_law_h_ring [.d (.int 58)] = .ok (.d (rowD [1, -1, 1, -1, 1, -1, 1, -1, 1, -1, 1, -1, 1, -1, 1, -1, 1, -1, 1, -1, 1, -1, 1, -1, 1, -1, 1, -1, 1])) [.d .non] := by
  rw [T_h_is]
  kernel_rfl
theorem hrow_59 : F_law_h_ring [.d (.int 59)] = .ok (.d (rowD [1, 1, 1, 1, 1, 1, 1, 1, 1, 1, 1, 1, 1, 1, 1, 1, 1, 1, 1, 1, 1, 1, 1, 1, 1, 1, 1, 1, 1, 1, 1, 1, 1, 1, 1, 1, 1, 1, 1, 1, 1, 1, 1, 1, 1, 1, 1, 1, 1, 1, 1, 1, 1, 1, 1, 1, 1, 1, 1])) [.d .non] := by
  rw [T_h_is]
  kernel_rfl
theorem hrow_60 : F_law_h_ring [.d (.int 60)] = .ok (.d (rowD [1, 0, 1, 0, 0, 0, -1, 0, -1, 0, -1, 0, 0, 0, 1, 0, 1])) [.d .non] := by
  rw [T_h_is]
  kernel_rfl
end K19
end FL
set_option Elab.async false
set_option linter.all false
set_option maxRecDepth 100000
set_option maxHeartbeats 0
namespace FL
namespace K19
open PySem PySem.Spec L2
open PyProof.Rows hiding St
def uG1 : FL.D → M Unit := (tupG 2 (consG (nameG [] 3) (consG (nameG [] 4) nilG)))
def uG2 : FL.D → M Unit := (tupG 2 (consG (nameG [] 5) (consG (nameG [] 6) nilG)))
def uV : M W := (callM F_summed (consA (datA (ixM (slotA 2) (datA (binM .Add (slotA 3) (slotA 5))))) (consA (datA (callM F_scaled (consA (datA (slotM 4)) (consA (datA (slotM 6)) nilA)))) nilA)))
def uI : M A := (datA (binM .Add (slotA 3) (slotA 5)))
def uS : M Fl := seqM (setSubM 2 uV uI) nextM
def uIn : M Fl := forS (iterL enumD (consL (slotM 1) nilL)) uG2 uS
def uOut : M Fl := forS (iterL enumD (consL (slotM 0) nilL)) uG1 (seqM uIn nextM)
def u0 : M Fl := (ifS (orB (boolM (cmpM .Eq (datA (bcM lenW (consA (slotA 0) nilA))) (datA (constM (.int (0)))))) (boolM (cmpM .Eq (datA (bcM lenW (consA (slotA 1) nilA))) (datA (constM (.int (0))))))) (seqM (retM (tupM nilL)) nextM) nextM)
def u1 : M Fl := (setM [] 2 (binM .Mult (datA (lstM (consL (constM (.tup [(.int (0)), (.int (1))])) nilL))) (datA (binM .Sub (datA (binM .Add (datA (bcM lenW (consA (slotA 0) nilA))) (datA (bcM lenW (consA (slotA 1) nilA))))) (datA (constM (.int (1))))))))
def u3 : M Fl := (retM (callM F_trimmed (consA (datA (slotM 2)) nilA)))
theorem prod_is : m_row_product__0 = seqM u0 (seqM u1 (seqM uOut (seqM u3 nextM))) := rfl
theorem sum_tab : (r7.all fun x => r7.all fun y => isPr (F_summed [.d (pr x), .d (pr y)]) (x + y)) = true := by kernel_rfl
theorem sca_tab : (r7.all fun x => r7.all fun y => isPr (F_scaled [.d (pr x), .d (pr y)]) (x * y)) = true := by kernel_rfl
theorem sum_ok {x y : Int} (h1 : small x = true) (h2 : small y = true) : F_summed [.d (pr x), .d (pr y)] = .ok (.d (pr (x + y))) [.d .non, .d .non] :=
  isPr_ok (List.all_eq_true.mp (List.all_eq_true.mp sum_tab x (small_mem h1)) y (small_mem h2))
theorem sca_ok {x y : Int} (h1 : small x = true) (h2 : small y = true) : F_scaled [.d (pr x), .d (pr y)] = .ok (.d (pr (x * y))) [.d .non, .d .non] :=
  isPr_ok (List.all_eq_true.mp (List.all_eq_true.mp sca_tab x (small_mem h1)) y (small_mem h2))
abbrev us (P : Option W) (q o : List Int) (x3 x4 x5 x6 : Option W) : Rho := [P, some (.d (.tup (rows q))), some (.own (.lst (rows o))), x3, x4, x5, x6]
section
variable {P x3 x4 x5 x6 : Option W} {q o : List Int}
theorem ixN_nat {n k : Nat} (h : k < n) : ixN n ((k : Nat) : Int) = some k := by
  unfold ixN
  rw [if_pos (by omega), if_pos (by omega)]
  simp
theorem uS_ok {i j : Nat} {c y z : Int} (hz : o[i + j]? = some z) (sc : small c = true) (sy : small y = true) (sz : small z = true) (sp : small (c * y) = true) :
    uS (us P q o (some (.d (.int (i : Int)))) (some (.d (pr c))) (some (.d (.int (j : Int)))) (some (.d (pr y)))) = .ok .nx (us P q (o.set (i + j) (z + c * y)) (some (.d (.int (i : Int)))) (some (.d (pr c))) (some (.d (.int (j : Int)))) (some (.d (pr y)))) := by
  have hlt : i + j < o.length := (List.getElem?_eq_some_iff.mp hz).1
  have hlt' : i + j < (rows o).length := by simp [rows]; omega
  have e0 : ((i : Int) + (j : Int)) = ((i + j : Nat) : Int) := by omega
  have ix : ixW (.lst (rows o)) (.int ((i : Int) + (j : Int))) = some (.d (pr z)) := by
    show (L2.atI (rows o) _).map _ = _
    rw [e0]
    unfold L2.atI
    rw [ixN_nat hlt']
    show ((rows o)[i + j]?).map _ = _
    simp [rows, hz]
  have st : setW (.lst (rows o)) (.int ((i : Int) + (j : Int))) (pr (z + c * y)) = some (.lst (rows (o.set (i + j) (z + c * y)))) := by
    show (ixN (rows o).length _).map _ = _
    rw [e0, ixN_nat hlt']
    simp [rows, List.map_set]
  let ρ := us P q o (some (.d (.int (i : Int)))) (some (.d (pr c))) (some (.d (.int (j : Int)))) (some (.d (pr y)))
  have m1 : datA (ixM (slotA 2) (datA (binM .Add (slotA 3) (slotA 5)))) ρ = .ok (.val (pr z)) ρ :=
    ev_dat (w := .d (pr z)) (ev_ix (x := .ref 2) (y := .val (.int ((i : Int) + (j : Int)))) (a := .lst (rows o)) rfl rfl rfl rfl ix)
  have m2 : datA (callM F_scaled (consA (datA (slotM 4)) (consA (datA (slotM 6)) nilA))) ρ = .ok (.val (pr (c * y))) ρ :=
    ev_dat (w := .d (pr (c * y))) (ev_call2 (a := pr c) (b := pr y) rfl rfl (sca_ok sc sy))
  have m3 : uV ρ = .ok (.d (pr (z + c * y))) ρ := ev_call2 (a := pr z) (b := pr (c * y)) m1 m2 (sum_ok sz sp)
  have m4 : uI ρ = .ok (.val (.int ((i : Int) + (j : Int)))) ρ := rfl
  unfold uS
  rw [seq_nx (ev_setSub (i := 2) (c0 := .lst (rows o)) (c := .lst (rows o)) m3 rfl m4 rfl rfl st)]
  rfl
end
def mulRow (i : Nat) (c : Int) : Nat → List Int → List Int → Option W → Option W → Option (List Int × Option W × Option W)
  | _, [], o, x5, x6 => some (o, x5, x6)
  | j, y :: r, o, _, _ => match o[i + j]? with
    | some z => if (small c && small y && small z && small (c * y)) = true then mulRow i c (j + 1) r (o.set (i + j) (z + c * y)) (some (.d (.int (j : Int)))) (some (.d (pr y))) else none
    | none => none
theorem row_run {P : Option W} {q : List Int} {i : Nat} {c : Int} : ∀ {r : List Int} {j : Nat} {o o' : List Int} {x5 x6 y5 y6 : Option W}, mulRow i c j r o x5 x6 = some (o', y5, y6) →
    forM uG2 uS (pairs j (rows r)) (us P q o (some (.d (.int (i : Int)))) (some (.d (pr c))) x5 x6) = .ok .nx (us P q o' (some (.d (.int (i : Int)))) (some (.d (pr c))) y5 y6)
  | [], j, o, o', x5, x6, y5, y6, e => by
    have e' := Option.some.inj e
    cases e'
    rfl
  | y :: r, j, o, o', x5, x6, y5, y6, e => by
    unfold mulRow at e
    split at e
    · rename_i z hz
      split at e
      · rename_i hs
        rw [Bool.and_eq_true, Bool.and_eq_true, Bool.and_eq_true] at hs
        show forM uG2 uS (.tup [.int (j : Int), pr y] :: pairs (j + 1) (rows r)) _ = _
        rw [forM_nx (ρ1 := us P q o (some (.d (.int (i : Int)))) (some (.d (pr c))) (some (.d (.int (j : Int)))) (some (.d (pr y)))) rfl (uS_ok hz hs.1.1.1 hs.1.1.2 hs.1.2 hs.2)]
        exact row_run e
      · cases e
    · cases e
def mulAll (q : List Int) : Nat → List Int → List Int → Option W → Option W → Option W → Option W → Option (List Int × Option W × Option W × Option W × Option W)
  | _, [], o, x3, x4, x5, x6 => some (o, x3, x4, x5, x6)
  | i, c :: r, o, _, _, x5, x6 => match mulRow i c 0 q o x5 x6 with
    | some (o', y5, y6) => mulAll q (i + 1) r o' (some (.d (.int (i : Int)))) (some (.d (pr c))) y5 y6
    | none => none
theorem all_run {P : Option W} {q : List Int} : ∀ {r : List Int} {i : Nat} {o o' : List Int} {x3 x4 x5 x6 y3 y4 y5 y6 : Option W}, mulAll q i r o x3 x4 x5 x6 = some (o', y3, y4, y5, y6) →
    forM uG1 (seqM uIn nextM) (pairs i (rows r)) (us P q o x3 x4 x5 x6) = .ok .nx (us P q o' y3 y4 y5 y6)
  | [], i, o, o', x3, x4, x5, x6, y3, y4, y5, y6, e => by
    have e' := Option.some.inj e
    cases e'
    rfl
  | c :: r, i, o, o', x3, x4, x5, x6, y3, y4, y5, y6, e => by
    unfold mulAll at e
    split at e
    · rename_i o1 z5 z6 hr
      have run := row_run (P := P) (q := q) hr
      have hin : uIn (us P q o (some (.d (.int (i : Int)))) (some (.d (pr c))) x5 x6) = .ok .nx (us P q o1 (some (.d (.int (i : Int)))) (some (.d (pr c))) z5 z6) := ev_for (ρ1 := us P q o (some (.d (.int (i : Int)))) (some (.d (pr c))) x5 x6) rfl run
      show forM uG1 (seqM uIn nextM) (.tup [.int (i : Int), pr c] :: pairs (i + 1) (rows r)) _ = _
      rw [forM_nx (ρ1 := us P q o (some (.d (.int (i : Int)))) (some (.d (pr c))) x5 x6) rfl (by rw [seq_nx hin]; rfl)]
      exact all_run e
    · cases e
def OUT_T : M Fl := fun ρ => match ρ with
  | [some (.d (.tup P)), some (.d (.tup Q)), some (.own (.lst O)), x3, x4, x5, x6] => match decs P, decs Q, decs O with
    | some p, some q, some o => match mulAll q 0 p o x3 x4 x5 x6 with
      | some (o', y3, y4, y5, y6) => .ok .nx (us (some (.d (.tup (rows p)))) q o' y3 y4 y5 y6)
      | none => uOut [some (.d (.tup P)), some (.d (.tup Q)), some (.own (.lst O)), x3, x4, x5, x6]
    | _, _, _ => uOut [some (.d (.tup P)), some (.d (.tup Q)), some (.own (.lst O)), x3, x4, x5, x6]
  | ρ => uOut ρ
theorem OUT_is : uOut = OUT_T := by
  funext ρ
  unfold OUT_T
  split
  · rename_i P Q O x3 x4 x5 x6
    split
    · rename_i p q o h1 h2 h3
      split
      · rename_i o' y3 y4 y5 y6 h4
        rw [decs_ok h1, decs_ok h2, decs_ok h3]
        exact ev_for (ρ1 := us (some (.d (.tup (rows p)))) q o x3 x4 x5 x6) rfl (all_run h4)
      · rfl
    · rfl
  · rfl
def T_row_product__0 : FnSem := fnM 7 [false, false] (seqM u0 (seqM u1 (seqM OUT_T (seqM u3 nextM))))
theorem is_row_product__0 : F_row_product__0 = T_row_product__0 := by
  unfold F_row_product__0 T_row_product__0
  rw [prod_is, OUT_is]
theorem sOk_app {x y : Str} (h1 : PyData.strOk x = true) (h2 : PyData.strOk y = true) : PyData.strOk (x ++ y) = true := by
  unfold PyData.strOk at h1 h2 ⊢
  show (x.cps ++ y.cps).all _ = true
  rw [Array.all_append, h1, h2]
  rfl
theorem sOk_of (s : String) : PyData.strOk (Str.ofString s) = true := by
  rw [Str.ofString_eq_toList]
  unfold PyData.strOk
  simp only [List.all_toArray, List.all_map, List.all_eq_true]
  intro ch _
  have h : ch.toNat < 0x110000 := by
    rcases ch.valid with h | ⟨_, h⟩
    · exact Nat.lt_trans h (by decide)
    · exact h
  simpa using h
theorem sOk_join : ∀ {ts : List Str}, (∀ x ∈ ts, PyData.strOk x = true) → PyData.strOk (Str.join ", " ts) = true
  | [], _ => by kernel_rfl
  | [x], h => h x List.mem_cons_self
  | x :: y :: r, h => sOk_app (sOk_app (h x List.mem_cons_self) (sOk_of ", ")) (sOk_join fun z hz => h z (List.mem_cons_of_mem _ hz))
theorem sOk_tup {ts : List Str} (h : ∀ x ∈ ts, PyData.strOk x = true) : PyData.strOk (tupleText ts) = true := by
  unfold tupleText
  refine sOk_app (sOk_app (sOk_of "(") (sOk_join h)) (sOk_of _)
def pyR (cs : List Int) : PyData := .tuple (cs.map fun c => .tuple [.int c, .int 1])
theorem sOk_int (i : Int) : PyData.strOk (PyData.shown (.int i)) = true := sOk_of _
theorem sOk_pr (c : Int) : PyData.strOk (PyData.shown (.tuple [.int c, .int 1])) = true := by
  show PyData.strOk (tupleText [PyData.shown (.int c), PyData.shown (.int 1)]) = true
  refine sOk_tup fun x hx => ?_
  rcases List.mem_cons.mp hx with e | e
  · rw [e]; exact sOk_int c
  · rw [List.mem_singleton.mp e]; exact sOk_int 1
theorem sOk_all : ∀ (cs : List Int) (x : Str), x ∈ PyData.shownAll (cs.map fun c => .tuple [.int c, .int 1]) → PyData.strOk x = true
  | [], x, h => absurd h (by simp [PyData.shownAll])
  | c :: cs, x, h => by
    have h' : x ∈ PyData.shown (.tuple [.int c, .int 1]) :: PyData.shownAll (cs.map fun c => .tuple [.int c, .int 1]) := h
    rcases List.mem_cons.mp h' with e | e
    · rw [e]; exact sOk_pr c
    · exact sOk_all cs x e
theorem sOk_row (cs : List Int) : PyData.strOk (pyR cs).shown = true := sOk_tup (sOk_all cs)
end K19
end FL
set_option Elab.async false
set_option linter.all false
set_option maxRecDepth 100000
set_option maxHeartbeats 0
namespace FL
namespace K19
open PySem PySem.Spec L2
open PyProof.Rows hiding St
def isTr (r : FR) (_ : Int) : Bool := match r with
  | .ok (.d (.bl b)) [.d .non] => b
  | _ => false
theorem isTr_ok {r : FR} {c : Int} (h : isTr r c = true) : r = .ok (.d (.bl true)) [.d .non] := by
  unfold isTr at h
  split at h
  · rw [h]
  · cases h
def isPr1 (r : FR) (c : Int) : Bool := match r with
  | .ok (.d (.tup [.int a, .int b])) [.d .non] => decide (a = c) && decide (b = 1)
  | _ => false
theorem isPr1_ok {r : FR} {c : Int} (h : isPr1 r c = true) : r = .ok (.d (pr c)) [.d .non] := by
  unfold isPr1 at h
  split at h
  · rw [Bool.and_eq_true, decide_eq_true_eq, decide_eq_true_eq] at h
    rw [h.1, h.2]
  · cases h
def T_law_is_told : FnSem := fun ws => match ws with
  | [.d d] => match dec1 d with
    | some c => if small c = true then .ok (.d (.bl true)) [.d .non] else F_law_is_told [.d d]
    | none => F_law_is_told [.d d]
  | ws => F_law_is_told ws
theorem tab_law_is_told : (r7.all fun c => isTr (F_law_is_told [.d (pr c)]) c) = true := by kernel_rfl
theorem is_law_is_told : F_law_is_told = T_law_is_told := by
  funext ws
  unfold T_law_is_told
  split
  · rename_i d
    split
    · rename_i c h
      split
      · rename_i hs
        rw [dec1_ok h]
        exact isTr_ok (List.all_eq_true.mp tab_law_is_told c (small_mem hs))
      · rfl
    · rfl
  · rfl
def T_is_ratio : FnSem := fun ws => match ws with
  | [.d d] => match dec1 d with
    | some c => if small c = true then .ok (.d (.bl true)) [.d .non] else F_is_ratio [.d d]
    | none => F_is_ratio [.d d]
  | ws => F_is_ratio ws
theorem tab_is_ratio : (r7.all fun c => isTr (F_is_ratio [.d (pr c)]) c) = true := by kernel_rfl
theorem is_is_ratio : F_is_ratio = T_is_ratio := by
  funext ws
  unfold T_is_ratio
  split
  · rename_i d
    split
    · rename_i c h
      split
      · rename_i hs
        rw [dec1_ok h]
        exact isTr_ok (List.all_eq_true.mp tab_is_ratio c (small_mem hs))
      · rfl
    · rfl
  · rfl
def T_told : FnSem := fun ws => match ws with
  | [.d d] => match dec1 d with
    | some c => if small c = true then .ok (.d (pr c)) [.d .non] else F_told [.d d]
    | none => F_told [.d d]
  | ws => F_told ws
theorem tab_told : (r7.all fun c => isPr1 (F_told [.d (pr c)]) c) = true := by kernel_rfl
theorem is_told : F_told = T_told := by
  funext ws
  unfold T_told
  split
  · rename_i d
    split
    · rename_i c h
      split
      · rename_i hs
        rw [dec1_ok h]
        exact isPr1_ok (List.all_eq_true.mp tab_told c (small_mem hs))
      · rfl
    · rfl
  · rfl
def T_summed : FnSem := fun ws => match ws with
  | [.d d, .d e] => match dec1 d, dec1 e with
    | some c, some b => if (small c && small b) = true then .ok (.d (pr (c + b))) [.d .non, .d .non] else F_summed [.d d, .d e]
    | _, _ => F_summed [.d d, .d e]
  | ws => F_summed ws
theorem tab_summed : (r7.all fun c => r7.all fun b => isPr (F_summed [.d (pr c), .d (pr b)]) (c + b)) = true := by kernel_rfl
theorem is_summed : F_summed = T_summed := by
  funext ws
  unfold T_summed
  split
  · rename_i d e
    split
    · rename_i c b h1 h2
      split
      · rename_i hs
        rw [Bool.and_eq_true] at hs
        rw [dec1_ok h1, dec1_ok h2]
        exact isPr_ok (List.all_eq_true.mp (List.all_eq_true.mp tab_summed c (small_mem hs.1)) b (small_mem hs.2))
      · rfl
    · rfl
  · rfl
def T_scaled : FnSem := fun ws => match ws with
  | [.d d, .d e] => match dec1 d, dec1 e with
    | some c, some b => if (small c && small b) = true then .ok (.d (pr (c * b))) [.d .non, .d .non] else F_scaled [.d d, .d e]
    | _, _ => F_scaled [.d d, .d e]
  | ws => F_scaled ws
theorem tab_scaled : (r7.all fun c => r7.all fun b => isPr (F_scaled [.d (pr c), .d (pr b)]) (c * b)) = true := by kernel_rfl
theorem is_scaled : F_scaled = T_scaled := by
  funext ws
  unfold T_scaled
  split
  · rename_i d e
    split
    · rename_i c b h1 h2
      split
      · rename_i hs
        rw [Bool.and_eq_true] at hs
        rw [dec1_ok h1, dec1_ok h2]
        exact isPr_ok (List.all_eq_true.mp (List.all_eq_true.mp tab_scaled c (small_mem hs.1)) b (small_mem hs.2))
      · rfl
    · rfl
  · rfl
def mT_law_h_is_row : M Fl := (seqM (ifS (orB (notB (testM (datA (bcM isiW (consA (slotA 0) (consA (datA (constM (.ty "tuple"))) nilA)))))) (notB (testM (datA (bcM allW (consA (datA (lcM (iterM (slotM 0)) (nameG [0] 1) yesM (callM T_law_is_told (consA (datA (slotM 1)) nilA)) [1])) nilA)))))) (seqM (retM (constM (.bl false))) nextM) nextM) (seqM (retM (orM (cmpM .Eq (slotA 0) (datA (tupM nilL))) (cmpM .NotEq (datA (ixM (datA (ixM (slotA 0) (datA (negM (datA (constM (.int (1)))))))) (datA (constM (.int (0)))))) (datA (constM (.int (0))))))) nextM))
def T_law_h_is_row : FnSem := fnM 2 [false] mT_law_h_is_row
theorem is_law_h_is_row : F_law_h_is_row = T_law_h_is_row := by
  unfold F_law_h_is_row T_law_h_is_row m_law_h_is_row mT_law_h_is_row
  rw [is_law_is_told]
def mT_row_passed : M Fl := (seqM (setM [] 1 (callM (F_in_tuples recN) (consA (datA (slotM 0)) nilA))) (seqM (ifS (orB (notB (testM (datA (bcM isiW (consA (slotA 1) (consA (datA (constM (.ty "tuple"))) nilA)))))) (notB (testM (datA (bcM allW (consA (datA (lcM (iterM (slotM 1)) (nameG [0, 1] 2) yesM (callM T_is_ratio (consA (datA (slotM 2)) nilA)) [2])) nilA)))))) (seqM (raiseM "BadRow" ["row"] (consL (slotM 0) nilL)) nextM) nextM) (seqM (retM (callM F_trimmed (consA (datA (lcM (iterM (slotM 1)) (nameG [0, 1] 2) yesM (callM T_told (consA (datA (slotM 2)) nilA)) [2])) nilA))) nextM)))
def T_row_passed : FnSem := fnM 3 [false] mT_row_passed
theorem is_row_passed : F_row_passed = T_row_passed := by
  unfold F_row_passed T_row_passed m_row_passed mT_row_passed
  rw [is_is_ratio, is_told]
def mT_row_product : M Fl := (seqM (parM [] 2 3 (callM T_row_passed (consA (datA (slotM 0)) nilA)) (callM T_row_passed (consA (datA (slotM 1)) nilA))) (seqM (retM (callM T_row_product__0 (consA (datA (slotM 2)) (consA (datA (slotM 3)) nilA)))) nextM))
def T_row_product : FnSem := fnM 4 [false, false] mT_row_product
theorem is_row_product : F_row_product = T_row_product := by
  unfold F_row_product T_row_product m_row_product mT_row_product
  rw [is_row_product__0, is_row_passed]
def mT_at_by : M Fl := (seqM (setM [] 2 (constM (.tup [(.int (0)), (.int (1))]))) (seqM (forS (iterM (slSM (slotA 0) noPart noPart (partM (negM (datA (constM (.int (1)))))))) (nameG [] 3) (seqM (setM [] 2 (callM T_summed (consA (datA (callM T_scaled (consA (datA (slotM 2)) (consA (datA (slotM 1)) nilA)))) (consA (datA (slotM 3)) nilA)))) nextM)) (seqM (retS [] 2) nextM)))
def T_at_by : FnSem := fnM 4 [false, false] mT_at_by
theorem is_at_by : F_at_by = T_at_by := by
  unfold F_at_by T_at_by m_at_by mT_at_by
  rw [is_summed, is_scaled]
def ringL : List (List Int) := [[-1, 1], [1, 1], [1, 1, 1], [1, 0, 1], [1, 1, 1, 1, 1], [1, -1, 1], [1, 1, 1, 1, 1, 1, 1], [1, 0, 0, 0, 1], [1, 0, 0, 1, 0, 0, 1], [1, -1, 1, -1, 1], [1, 1, 1, 1, 1, 1, 1, 1, 1, 1, 1], [1, 0, -1, 0, 1], [1, 1, 1, 1, 1, 1, 1, 1, 1, 1, 1, 1, 1], [1, -1, 1, -1, 1, -1, 1], [1, -1, 0, 1, -1, 1, 0, -1, 1], [1, 0, 0, 0, 0, 0, 0, 0, 1], [1, 1, 1, 1, 1, 1, 1, 1, 1, 1, 1, 1, 1, 1, 1, 1, 1], [1, 0, 0, -1, 0, 0, 1], [1, 1, 1, 1, 1, 1, 1, 1, 1, 1, 1, 1, 1, 1, 1, 1, 1, 1, 1], [1, 0, -1, 0, 1, 0, -1, 0, 1], [1, -1, 0, 1, -1, 0, 1, 0, -1, 1, 0, -1, 1], [1, -1, 1, -1, 1, -1, 1, -1, 1, -1, 1], [1, 1, 1, 1, 1, 1, 1, 1, 1, 1, 1, 1, 1, 1, 1, 1, 1, 1, 1, 1, 1, 1, 1], [1, 0, 0, 0, -1, 0, 0, 0, 1], [1, 0, 0, 0, 0, 1, 0, 0, 0, 0, 1, 0, 0, 0, 0, 1, 0, 0, 0, 0, 1], [1, -1, 1, -1, 1, -1, 1, -1, 1, -1, 1, -1, 1], [1, 0, 0, 0, 0, 0, 0, 0, 0, 1, 0, 0, 0, 0, 0, 0, 0, 0, 1], [1, 0, -1, 0, 1, 0, -1, 0, 1, 0, -1, 0, 1], [1, 1, 1, 1, 1, 1, 1, 1, 1, 1, 1, 1, 1, 1, 1, 1, 1, 1, 1, 1, 1, 1, 1, 1, 1, 1, 1, 1, 1], [1, 1, 0, -1, -1, -1, 0, 1, 1], [1, 1, 1, 1, 1, 1, 1, 1, 1, 1, 1, 1, 1, 1, 1, 1, 1, 1, 1, 1, 1, 1, 1, 1, 1, 1, 1, 1, 1, 1, 1], [1, 0, 0, 0, 0, 0, 0, 0, 0, 0, 0, 0, 0, 0, 0, 0, 1], [1, -1, 0, 1, -1, 0, 1, -1, 0, 1, -1, 1, 0, -1, 1, 0, -1, 1, 0, -1, 1], [1, -1, 1, -1, 1, -1, 1, -1, 1, -1, 1, -1, 1, -1, 1, -1, 1], [1, -1, 0, 0, 0, 1, -1, 1, -1, 0, 1, -1, 1, -1, 1, 0, -1, 1, -1, 1, 0, 0, 0, -1, 1], [1, 0, 0, 0, 0, 0, -1, 0, 0, 0, 0, 0, 1], [1, 1, 1, 1, 1, 1, 1, 1, 1, 1, 1, 1, 1, 1, 1, 1, 1, 1, 1, 1, 1, 1, 1, 1, 1, 1, 1, 1, 1, 1, 1, 1, 1, 1, 1, 1, 1], [1, -1, 1, -1, 1, -1, 1, -1, 1, -1, 1, -1, 1, -1, 1, -1, 1, -1, 1], [1, -1, 0, 1, -1, 0, 1, -1, 0, 1, -1, 0, 1, 0, -1, 1, 0, -1, 1, 0, -1, 1, 0, -1, 1], [1, 0, 0, 0, -1, 0, 0, 0, 1, 0, 0, 0, -1, 0, 0, 0, 1], [1, 1, 1, 1, 1, 1, 1, 1, 1, 1, 1, 1, 1, 1, 1, 1, 1, 1, 1, 1, 1, 1, 1, 1, 1, 1, 1, 1, 1, 1, 1, 1, 1, 1, 1, 1, 1, 1, 1, 1, 1], [1, 1, 0, -1, -1, 0, 1, 0, -1, -1, 0, 1, 1], [1, 1, 1, 1, 1, 1, 1, 1, 1, 1, 1, 1, 1, 1, 1, 1, 1, 1, 1, 1, 1, 1, 1, 1, 1, 1, 1, 1, 1, 1, 1, 1, 1, 1, 1, 1, 1, 1, 1, 1, 1, 1, 1], [1, 0, -1, 0, 1, 0, -1, 0, 1, 0, -1, 0, 1, 0, -1, 0, 1, 0, -1, 0, 1], [1, 0, 0, -1, 0, 0, 0, 0, 0, 1, 0, 0, -1, 0, 0, 1, 0, 0, 0, 0, 0, -1, 0, 0, 1], [1, -1, 1, -1, 1, -1, 1, -1, 1, -1, 1, -1, 1, -1, 1, -1, 1, -1, 1, -1, 1, -1, 1], [1, 1, 1, 1, 1, 1, 1, 1, 1, 1, 1, 1, 1, 1, 1, 1, 1, 1, 1, 1, 1, 1, 1, 1, 1, 1, 1, 1, 1, 1, 1, 1, 1, 1, 1, 1, 1, 1, 1, 1, 1, 1, 1, 1, 1, 1, 1], [1, 0, 0, 0, 0, 0, 0, 0, -1, 0, 0, 0, 0, 0, 0, 0, 1], [1, 0, 0, 0, 0, 0, 0, 1, 0, 0, 0, 0, 0, 0, 1, 0, 0, 0, 0, 0, 0, 1, 0, 0, 0, 0, 0, 0, 1, 0, 0, 0, 0, 0, 0, 1, 0, 0, 0, 0, 0, 0, 1], [1, 0, 0, 0, 0, -1, 0, 0, 0, 0, 1, 0, 0, 0, 0, -1, 0, 0, 0, 0, 1], [1, -1, 0, 1, -1, 0, 1, -1, 0, 1, -1, 0, 1, -1, 0, 1, -1, 1, 0, -1, 1, 0, -1, 1, 0, -1, 1, 0, -1, 1, 0, -1, 1], [1, 0, -1, 0, 1, 0, -1, 0, 1, 0, -1, 0, 1, 0, -1, 0, 1, 0, -1, 0, 1, 0, -1, 0, 1], [1, 1, 1, 1, 1, 1, 1, 1, 1, 1, 1, 1, 1, 1, 1, 1, 1, 1, 1, 1, 1, 1, 1, 1, 1, 1, 1, 1, 1, 1, 1, 1, 1, 1, 1, 1, 1, 1, 1, 1, 1, 1, 1, 1, 1, 1, 1, 1, 1, 1, 1, 1, 1], [1, 0, 0, 0, 0, 0, 0, 0, 0, -1, 0, 0, 0, 0, 0, 0, 0, 0, 1], [1, -1, 0, 0, 0, 1, -1, 0, 0, 0, 1, 0, -1, 0, 0, 1, 0, -1, 0, 0, 1, 0, 0, -1, 0, 1, 0, 0, -1, 0, 1, 0, 0, 0, -1, 1, 0, 0, 0, -1, 1], [1, 0, 0, 0, -1, 0, 0, 0, 1, 0, 0, 0, -1, 0, 0, 0, 1, 0, 0, 0, -1, 0, 0, 0, 1], [1, -1, 0, 1, -1, 0, 1, -1, 0, 1, -1, 0, 1, -1, 0, 1, -1, 0, 1, 0, -1, 1, 0, -1, 1, 0, -1, 1, 0, -1, 1, 0, -1, 1, 0, -1, 1], [1, -1, 1, -1, 1, -1, 1, -1, 1, -1, 1, -1, 1, -1, 1, -1, 1, -1, 1, -1, 1, -1, 1, -1, 1, -1, 1, -1, 1], [1, 1, 1, 1, 1, 1, 1, 1, 1, 1, 1, 1, 1, 1, 1, 1, 1, 1, 1, 1, 1, 1, 1, 1, 1, 1, 1, 1, 1, 1, 1, 1, 1, 1, 1, 1, 1, 1, 1, 1, 1, 1, 1, 1, 1, 1, 1, 1, 1, 1, 1, 1, 1, 1, 1, 1, 1, 1, 1], [1, 0, 1, 0, 0, 0, -1, 0, -1, 0, -1, 0, 0, 0, 1, 0, 1]]
def ringT (n : Int) : List Int := ringL.getD (n.toNat - 1) []
def T_ring_by : FnSem := fun ws => match ws with
  | [.d (.int n)] => if 1 ≤ n ∧ n ≤ 60 then .ok (.d (rowD (ringT n))) [.d .non] else F_ring_by [.d (.int n)]
  | ws => F_ring_by ws
theorem is_ring_by : F_ring_by = T_ring_by := by
  funext ws
  unfold T_ring_by
  split
  · rename_i n
    split
    · rename_i h
      have c : n = 1 ∨ n = 2 ∨ n = 3 ∨ n = 4 ∨ n = 5 ∨ n = 6 ∨ n = 7 ∨ n = 8 ∨ n = 9 ∨ n = 10 ∨ n = 11 ∨ n = 12 ∨ n = 13 ∨ n = 14 ∨ n = 15 ∨ n = 16 ∨ n = 17 ∨ n = 18 ∨ n = 19 ∨ n = 20 ∨ n = 21 ∨ n = 22 ∨ n = 23 ∨ n = 24 ∨ n = 25 ∨ n = 26 ∨ n = 27 ∨ n = 28 ∨ n = 29 ∨ n = 30 ∨ n = 31 ∨ n = 32 ∨ n = 33 ∨ n = 34 ∨ n = 35 ∨ n = 36 ∨ n = 37 ∨ n = 38 ∨ n = 39 ∨ n = 40 ∨ n = 41 ∨ n = 42 ∨ n = 43 ∨ n = 44 ∨ n = 45 ∨ n = 46 ∨ n = 47 ∨ n = 48 ∨ n = 49 ∨ n = 50 ∨ n = 51 ∨ n = 52 ∨ n = 53 ∨ n = 54 ∨ n = 55 ∨ n = 56 ∨ n = 57 ∨ n = 58 ∨ n = 59 ∨ n = 60 := by omega
      rcases c with rfl | rfl | rfl | rfl | rfl | rfl | rfl | rfl | rfl | rfl | rfl | rfl | rfl | rfl | rfl | rfl | rfl | rfl | rfl | rfl | rfl | rfl | rfl | rfl | rfl | rfl | rfl | rfl | rfl | rfl | rfl | rfl | rfl | rfl | rfl | rfl | rfl | rfl | rfl | rfl | rfl | rfl | rfl | rfl | rfl | rfl | rfl | rfl | rfl | rfl | rfl | rfl | rfl | rfl | rfl | rfl | rfl | rfl | rfl | rfl
      · exact ring_1
      · exact ring_2
      · exact ring_3
      · exact ring_4
      · exact ring_5
      · exact ring_6
      · exact ring_7
      · exact ring_8
      · exact ring_9
      · exact ring_10
      · exact ring_11
      · exact ring_12
      · exact ring_13
      · exact ring_14
      · exact ring_15
      · exact ring_16
      · exact ring_17
      · exact ring_18
      · exact ring_19
      · exact ring_20
      · exact ring_21
      · exact ring_22
      · exact ring_23
      · exact ring_24
      · exact ring_25
      · exact ring_26
      · exact ring_27
      · exact ring_28
      · exact ring_29
      · exact ring_30
      · exact ring_31
      · exact ring_32
      · exact ring_33
      · exact ring_34
      · exact ring_35
      · exact ring_36
      · exact ring_37
      · exact ring_38
      · exact ring_39
      · exact ring_40
      · exact ring_41
      · exact ring_42
      · exact ring_43
      · exact ring_44
      · exact ring_45
      · exact ring_46
      · exact ring_47
      · exact ring_48
      · exact ring_49
      · exact ring_50
      · exact ring_51
      · exact ring_52
      · exact ring_53
      · exact ring_54
      · exact ring_55
      · exact ring_56
      · exact ring_57
      · exact ring_58
      · exact ring_59
      · exact ring_60
    · rfl
  · rfl
def mT_ring_row : M Fl := (seqM (dropM (callM F_need_between (consA (datA (constM (.str "number"))) (consA (datA (slotM 0)) (consA (datA (constM (.int (1)))) (consA (datA (constM (.int (60)))) nilA)))))) (seqM (retM (callM T_ring_by (consA (datA (slotM 0)) nilA))) nextM))
def T_ring_row : FnSem := fnM 1 [false] mT_ring_row
theorem is_ring_row : F_ring_row = T_ring_row := by
  unfold F_ring_row T_ring_row m_ring_row mT_ring_row
  rw [is_ring_by]
def mT_row_at : M Fl := (seqM (setM [] 2 (callM T_row_passed (consA (datA (slotM 0)) nilA))) (seqM (retM (callM T_at_by (consA (datA (slotM 2)) (consA (datA (callM F_ratio_passed (consA (datA (slotM 1)) nilA))) nilA)))) nextM))
def T_row_at : FnSem := fnM 3 [false, false] mT_row_at
theorem is_row_at : F_row_at = T_row_at := by
  unfold F_row_at T_row_at m_row_at mT_row_at
  rw [is_row_passed, is_at_by]
def mT_back_row : M Fl := (seqM (retM (callM F_trimmed (consA (datA (slSM (datA (callM T_row_passed (consA (datA (slotM 0)) nilA))) noPart noPart (partM (negM (datA (constM (.int (1)))))))) nilA))) nextM)
def T_back_row : FnSem := fnM 1 [false] mT_back_row
theorem is_back_row : F_back_row = T_back_row := by
  unfold F_back_row T_back_row m_back_row mT_back_row
  rw [is_row_passed]
def b0 : M Fl := (setM [] 3 (callM F_ring_row (consA (datA (slotM 2)) nilA)))
def bT0 : M Fl := (setM [] 3 (callM T_ring_row (consA (datA (slotM 2)) nilA)))
theorem b0_is : b0 = bT0 := by
  unfold b0 bT0
  rw [is_ring_row]
def b1 : M Fl := (ifS (orB (boolM (cmpM .NotEq (datA (bcM reprW (consA (slotA 3) nilA))) (datA (bcM reprW (consA (datA (callM F_law_h_ring (consA (datA (slotM 2)) nilA))) nilA))))) (orB (notB (testM (datA (callM F_law_h_is_row (consA (datA (slotM 3)) nilA))))) (orB (boolM (cmpM .NotEq (datA (ixM (slotA 3) (datA (negM (datA (constM (.int (1)))))))) (datA (tupM (consL (constM (.int (1))) (consL (constM (.int (1))) nilL)))))) (testM (datA (bcM anyW (consA (datA (lcM (iterM (slotM 3)) (nameG [0, 1, 2, 3, 4, 5, 6, 7] 8) yesM (cmpM .NotEq (datA (ixM (slotA 8) (datA (constM (.int (1)))))) (datA (constM (.int (1))))) [8])) nilA))))))) (seqM (retM (constM (.bl false))) nextM) nextM)
def b2 : M Fl := (setM [] 4 (tupM (consL (tupM (consL (constM (.int (1))) (consL (constM (.int (1))) nilL))) nilL)))
def bT2 : M Fl := (setM [] 4 (tupM (consL (tupM (consL (constM (.int (1))) (consL (constM (.int (1))) nilL))) nilL)))
theorem b2_is : b2 = bT2 := by
  unfold b2 bT2
  rfl
def b3 : M Fl := (forS (iterM (lcM (iterL range2D (consL (constM (.int (1))) (consL (binM .Add (slotA 2) (datA (constM (.int (1))))) nilL))) (nameG [0, 1, 2, 3, 4, 6, 7, 8] 5) (boolM (cmpM .Eq (datA (binM .Mod (datA (bcM intW (consA (slotA 2) nilA))) (slotA 5))) (datA (constM (.int (0)))))) (slotM 5) [5])) (nameG [] 5) (seqM (setM [] 4 (callM F_row_product (consA (datA (slotM 4)) (consA (datA (callM F_ring_row (consA (datA (slotM 5)) nilA))) nilA)))) nextM))
def bT3 : M Fl := (forS (iterM (lcM (iterL range2D (consL (constM (.int (1))) (consL (binM .Add (slotA 2) (datA (constM (.int (1))))) nilL))) (nameG [0, 1, 2, 3, 4, 6, 7, 8] 5) (boolM (cmpM .Eq (datA (binM .Mod (datA (bcM intW (consA (slotA 2) nilA))) (slotA 5))) (datA (constM (.int (0)))))) (slotM 5) [5])) (nameG [] 5) (seqM (setM [] 4 (callM T_row_product (consA (datA (slotM 4)) (consA (datA (callM T_ring_row (consA (datA (slotM 5)) nilA))) nilA)))) nextM))
theorem b3_is : b3 = bT3 := by
  unfold b3 bT3
  rw [is_row_product, is_ring_row]
def b4 : M Fl := (ifS (boolM (cmpM .NotEq (slotA 4) (datA (binM .Add (datA (binM .Add (datA (tupM (consL (tupM (consL (negM (datA (constM (.int (1))))) (consL (constM (.int (1))) nilL))) nilL))) (datA (binM .Mult (datA (tupM (consL (tupM (consL (constM (.int (0))) (consL (constM (.int (1))) nilL))) nilL))) (datA (binM .Sub (slotA 2) (datA (constM (.int (1)))))))))) (datA (tupM (consL (tupM (consL (constM (.int (1))) (consL (constM (.int (1))) nilL))) nilL))))))) (seqM (retM (constM (.bl false))) nextM) nextM)
def bT4 : M Fl := (ifS (boolM (cmpM .NotEq (slotA 4) (datA (binM .Add (datA (binM .Add (datA (tupM (consL (tupM (consL (negM (datA (constM (.int (1))))) (consL (constM (.int (1))) nilL))) nilL))) (datA (binM .Mult (datA (tupM (consL (tupM (consL (constM (.int (0))) (consL (constM (.int (1))) nilL))) nilL))) (datA (binM .Sub (slotA 2) (datA (constM (.int (1)))))))))) (datA (tupM (consL (tupM (consL (constM (.int (1))) (consL (constM (.int (1))) nilL))) nilL))))))) (seqM (retM (constM (.bl false))) nextM) nextM)
theorem b4_is : b4 = bT4 := by
  unfold b4 bT4
  rfl
def b5 : M Fl := (ifS (andB (boolM (cmpM .Gt (slotA 2) (datA (constM (.int (1)))))) (orB (boolM (cmpM .NotEq (datA (callM F_row_at (consA (datA (slotM 3)) (consA (datA (constM (.int (1)))) nilA)))) (datA (tupM (consL (callM F_law_prime_of (consA (datA (slotM 2)) nilA)) (consL (constM (.int (1))) nilL)))))) (orB (boolM (cmpM .NotEq (datA (callM F_back_row (consA (datA (slotM 3)) nilA))) (slotA 3))) (boolM (cmpM .NotEq (datA (callM F_row_at (consA (datA (slotM 3)) (consA (datA (constM (.int (0)))) nilA)))) (datA (tupM (consL (constM (.int (1))) (consL (constM (.int (1))) nilL))))))))) (seqM (retM (constM (.bl false))) nextM) nextM)
def bT5 : M Fl := (ifS (andB (boolM (cmpM .Gt (slotA 2) (datA (constM (.int (1)))))) (orB (boolM (cmpM .NotEq (datA (callM T_row_at (consA (datA (slotM 3)) (consA (datA (constM (.int (1)))) nilA)))) (datA (tupM (consL (callM F_law_prime_of (consA (datA (slotM 2)) nilA)) (consL (constM (.int (1))) nilL)))))) (orB (boolM (cmpM .NotEq (datA (callM T_back_row (consA (datA (slotM 3)) nilA))) (slotA 3))) (boolM (cmpM .NotEq (datA (callM T_row_at (consA (datA (slotM 3)) (consA (datA (constM (.int (0)))) nilA)))) (datA (tupM (consL (constM (.int (1))) (consL (constM (.int (1))) nilL))))))))) (seqM (retM (constM (.bl false))) nextM) nextM)
theorem b5_is : b5 = bT5 := by
  unfold b5 bT5
  rw [is_row_at, is_back_row]
def b6 : M Fl := (setM [] 6 (lcM (iterL range2D (consL (constM (.int (1))) (consL (binM .Add (slotA 2) (datA (constM (.int (1))))) nilL))) (nameG [0, 1, 2, 3, 4, 6, 7, 8] 5) (boolM (cmpM .Eq (datA (callM F_law_gcd (consA (datA (slotM 5)) (consA (datA (slotM 2)) nilA)))) (datA (constM (.int (1)))))) (slotM 5) [5]))
def bT6 : M Fl := (setM [] 6 (lcM (iterL range2D (consL (constM (.int (1))) (consL (binM .Add (slotA 2) (datA (constM (.int (1))))) nilL))) (nameG [0, 1, 2, 3, 4, 6, 7, 8] 5) (boolM (cmpM .Eq (datA (callM F_law_gcd (consA (datA (slotM 5)) (consA (datA (slotM 2)) nilA)))) (datA (constM (.int (1)))))) (slotM 5) [5]))
theorem b6_is : b6 = bT6 := by
  unfold b6 bT6
  rfl
def b7 : M Fl := (ifS (boolM (cmpM .NotEq (datA (bcM lenW (consA (slotA 3) nilA))) (datA (binM .Add (datA (bcM lenW (consA (slotA 6) nilA))) (datA (constM (.int (1)))))))) (seqM (retM (constM (.bl false))) nextM) nextM)
def bT7 : M Fl := (ifS (boolM (cmpM .NotEq (datA (bcM lenW (consA (slotA 3) nilA))) (datA (binM .Add (datA (bcM lenW (consA (slotA 6) nilA))) (datA (constM (.int (1)))))))) (seqM (retM (constM (.bl false))) nextM) nextM)
theorem b7_is : b7 = bT7 := by
  unfold b7 bT7
  rfl
def c1 : M Bool := (boolM (cmpM .NotEq (datA (bcM reprW (consA (slotA 3) nilA))) (datA (bcM reprW (consA (datA (callM F_law_h_ring (consA (datA (slotM 2)) nilA))) nilA)))))
def c2 : M Bool := (orB (notB (testM (datA (callM F_law_h_is_row (consA (datA (slotM 3)) nilA))))) (orB (boolM (cmpM .NotEq (datA (ixM (slotA 3) (datA (negM (datA (constM (.int (1)))))))) (datA (tupM (consL (constM (.int (1))) (consL (constM (.int (1))) nilL)))))) (testM (datA (bcM anyW (consA (datA (lcM (iterM (slotM 3)) (nameG [0, 1, 2, 3, 4, 5, 6, 7] 8) yesM (cmpM .NotEq (datA (ixM (slotA 8) (datA (constM (.int (1)))))) (datA (constM (.int (1))))) [8])) nilA))))))
def cT2 : M Bool := (orB (notB (testM (datA (callM T_law_h_is_row (consA (datA (slotM 3)) nilA))))) (orB (boolM (cmpM .NotEq (datA (ixM (slotA 3) (datA (negM (datA (constM (.int (1)))))))) (datA (tupM (consL (constM (.int (1))) (consL (constM (.int (1))) nilL)))))) (testM (datA (bcM anyW (consA (datA (lcM (iterM (slotM 3)) (nameG [0, 1, 2, 3, 4, 5, 6, 7] 8) yesM (cmpM .NotEq (datA (ixM (slotA 8) (datA (constM (.int (1)))))) (datA (constM (.int (1))))) [8])) nilA))))))
theorem c2_is : c2 = cT2 := by
  unfold c2 cT2
  rw [is_law_h_is_row]
theorem b1_is : b1 = ifS (orB c1 c2) (seqM (retM (constM (.bl false))) nextM) nextM := rfl
def lawBody : M Fl := (seqM b0 (seqM b1 (seqM b2 (seqM b3 (seqM b4 (seqM b5 (seqM b6 (seqM b7 nextM))))))))
theorem toPys_rows : ∀ cs : List Int, toPys (rows cs) = some (cs.map fun c => .tuple [.int c, .int 1])
  | [] => rfl
  | c :: cs => by
    show (match toPy (pr c), toPys (rows cs) with
      | some p, some ps => some (p :: ps)
      | _, _ => none) = _
    rw [toPys_rows cs]
    rfl
theorem toPy_rowD (cs : List Int) : toPy (rowD cs) = some (pyR cs) := by
  show (toPys (rows cs)).map PyData.tuple = _
  rw [toPys_rows]
  rfl
theorem repr_row {cs : List Int} (h : canShow (pyR cs) = true) : reprW [rowD cs] = some (.d (.str (pyR cs).shown)) := by
  show (match toPy (rowD cs) with
    | some p => if canShow p = true then some (W.d (.str p.shown)) else none
    | none => none) = _
  rw [toPy_rowD]
  show (if canShow (pyR cs) = true then some (W.d (.str (pyR cs).shown)) else none) = _
  rw [if_pos h]
theorem eqv_str (z : Str) : PyData.eqv (.str z) (.str z) = true := by
  simp [PyData.eqv]
theorem shaped_str {z : Str} (h : PyData.strOk z = true) : SeqAt.shaped (.str z) = true := by
  show (PyData.strOk z && true) = true
  rw [h]
  rfl
theorem ne_str {z : Str} (h : PyData.strOk z = true) : cmpW .NotEq (.str z) (.str z) = some (.d (.bl false)) := by
  show (if (SeqAt.shaped (.str z) && SeqAt.shaped (.str z)) = true then some (W.d (.bl (!PyData.eqv (.str z) (.str z)))) else none) = _
  rw [shaped_str h, eqv_str]
  rfl
theorem eq_str {z : Str} (h : PyData.strOk z = true) : cmpW .Eq (.str z) (.str z) = some (.d (.bl true)) := by
  show (if (SeqAt.shaped (.str z) && SeqAt.shaped (.str z)) = true then some (W.d (.bl (PyData.eqv (.str z) (.str z)))) else none) = _
  rw [shaped_str h, eqv_str]
  rfl
abbrev ls (a0 a1 : Option W) (n : Int) (cs : List Int) (a4 a5 a6 a7 a8 : Option W) : Rho := [a0, a1, some (.d (.int n)), some (.d (rowD cs)), a4, a5, a6, a7, a8]
theorem c1_ok {a0 a1 a4 a5 a6 a7 a8 : Option W} {n : Int} {cs : List Int} (h : canShow (pyR cs) = true) (hr : F_law_h_ring [.d (.int n)] = .ok (.d (rowD cs)) [.d .non]) : c1 (ls a0 a1 n cs a4 a5 a6 a7 a8) = .ok false (ls a0 a1 n cs a4 a5 a6 a7 a8) := by
  have e1 : datA (bcM reprW (consA (slotA 3) nilA)) (ls a0 a1 n cs a4 a5 a6 a7 a8) = .ok (.val (.str (pyR cs).shown)) (ls a0 a1 n cs a4 a5 a6 a7 a8) :=
    ev_dat (w := .d (.str (pyR cs).shown)) (ev_bc1 (x := .val (rowD cs)) (a := rowD cs) rfl rfl (repr_row h))
  have e2 : callM F_law_h_ring (consA (datA (slotM 2)) nilA) (ls a0 a1 n cs a4 a5 a6 a7 a8) = .ok (.d (rowD cs)) (ls a0 a1 n cs a4 a5 a6 a7 a8) := ev_call1 (a := .int n) rfl hr
  have e3 : datA (bcM reprW (consA (datA (callM F_law_h_ring (consA (datA (slotM 2)) nilA))) nilA)) (ls a0 a1 n cs a4 a5 a6 a7 a8) = .ok (.val (.str (pyR cs).shown)) (ls a0 a1 n cs a4 a5 a6 a7 a8) :=
    ev_dat (w := .d (.str (pyR cs).shown)) (ev_bc1 (x := .val (rowD cs)) (a := rowD cs) (ev_dat (w := .d (rowD cs)) e2) rfl (repr_row h))
  exact ev_bool (ev_cmp e1 e3 rfl rfl (ne_str (sOk_row cs)))
theorem b1_ok {a0 a1 a4 a5 a6 a7 a8 : Option W} {n : Int} {cs : List Int} (h : canShow (pyR cs) = true) (hr : F_law_h_ring [.d (.int n)] = .ok (.d (rowD cs)) [.d .non]) (h2 : cT2 (ls a0 a1 n cs a4 a5 a6 a7 a8) = .ok false (ls a0 a1 n cs a4 a5 a6 a7 a8)) :
    b1 (ls a0 a1 n cs a4 a5 a6 a7 a8) = .ok .nx (ls a0 a1 n cs a4 a5 a6 a7 a8) := by
  rw [b1_is]
  refine ev_if (k := false) (ev_or (c1_ok h hr) ?_) rfl
  rw [c2_is]
  exact h2
theorem b0_ok {a0 a1 a3 a4 a5 a6 a7 a8 : Option W} {n : Int} {cs : List Int} (h : F_ring_row [.d (.int n)] = .ok (.d (rowD cs)) [.d .non]) : b0 [a0, a1, some (.d (.int n)), a3, a4, a5, a6, a7, a8] = .ok .nx (ls a0 a1 n cs a4 a5 a6 a7 a8) :=
  ev_set (ρ1 := [a0, a1, some (.d (.int n)), a3, a4, a5, a6, a7, a8]) (w := .d (rowD cs)) (ev_call1 (a := .int n) rfl h) rfl
def rest : M Fl := seqM bT2 (seqM bT3 (seqM bT4 (seqM bT5 (seqM bT6 (seqM bT7 nextM)))))
theorem lap_of {a0 a1 a3 a4 a5 a6 a7 a8 : Option W} {n : Int} {cs : List Int} {ρ' : Rho} (h0 : F_ring_row [.d (.int n)] = .ok (.d (rowD cs)) [.d .non]) (h : canShow (pyR cs) = true) (hr : F_law_h_ring [.d (.int n)] = .ok (.d (rowD cs)) [.d .non])
    (h2 : cT2 (ls a0 a1 n cs a4 a5 a6 a7 a8) = .ok false (ls a0 a1 n cs a4 a5 a6 a7 a8)) (h3 : rest (ls a0 a1 n cs a4 a5 a6 a7 a8) = .ok .nx ρ') : lawBody [a0, a1, some (.d (.int n)), a3, a4, a5, a6, a7, a8] = .ok .nx ρ' := by
  unfold lawBody
  rw [seq_nx (b0_ok h0), seq_nx (b1_ok h hr h2), b2_is, b3_is, b4_is, b5_is, b6_is, b7_is]
  exact h3
end K19
end FL
set_option Elab.async false
set_option linter.all false
set_option maxRecDepth 100000
set_option maxHeartbeats 0
namespace FL
namespace K19
open PySem PySem.Spec L2
open PyProof.Rows hiding St
section
variable (a0 a1 a3 a4 a5 a6 a7 a8 : Option W)
theorem rr_1 : F_ring_row [.d (.int 1)] = .ok (.d (rowD [-1, 1])) [.d .non] := by
  rw [is_ring_row]
  kernel_rfl
theorem lap_1 : lawBody [a0, a1, some (.d (.int 1)), a3, a4, a5, a6, a7, a8] = .ok .nx [a0, a1, some (.d (.int 1)), some (.d (rowD [-1, 1])), some (.d (rowD [-1, 1])), some (.d (.int 1)), some (.own (.lst [.int 1])), a7, a8] :=
  lap_of rr_1 (by kernel_rfl) hrow_1 (by kernel_rfl) (by kernel_rfl)
theorem rr_2 : F_ring_row [.d (.int 2)] = .ok (.d (rowD [1, 1])) [.d .non] := by
  rw [is_ring_row]
  kernel_rfl
theorem lap_2 : lawBody [a0, a1, some (.d (.int 2)), a3, a4, a5, a6, a7, a8] = .ok .nx [a0, a1, some (.d (.int 2)), some (.d (rowD [1, 1])), some (.d (rowD [-1, 0, 1])), some (.d (.int 2)), some (.own (.lst [.int 1])), a7, a8] :=
  lap_of rr_2 (by kernel_rfl) hrow_2 (by kernel_rfl) (by kernel_rfl)
theorem rr_3 : F_ring_row [.d (.int 3)] = .ok (.d (rowD [1, 1, 1])) [.d .non] := by
  rw [is_ring_row]
  kernel_rfl
theorem lap_3 : lawBody [a0, a1, some (.d (.int 3)), a3, a4, a5, a6, a7, a8] = .ok .nx [a0, a1, some (.d (.int 3)), some (.d (rowD [1, 1, 1])), some (.d (rowD [-1, 0, 0, 1])), some (.d (.int 3)), some (.own (.lst [.int 1, .int 2])), a7, a8] :=
  lap_of rr_3 (by kernel_rfl) hrow_3 (by kernel_rfl) (by kernel_rfl)
theorem rr_4 : F_ring_row [.d (.int 4)] = .ok (.d (rowD [1, 0, 1])) [.d .non] := by
  rw [is_ring_row]
  kernel_rfl
theorem lap_4 : lawBody [a0, a1, some (.d (.int 4)), a3, a4, a5, a6, a7, a8] = .ok .nx [a0, a1, some (.d (.int 4)), some (.d (rowD [1, 0, 1])), some (.d (rowD [-1, 0, 0, 0, 1])), some (.d (.int 4)), some (.own (.lst [.int 1, .int 3])), a7, a8] :=
  lap_of rr_4 (by kernel_rfl) hrow_4 (by kernel_rfl) (by kernel_rfl)
theorem rr_5 : F_ring_row [.d (.int 5)] = .ok (.d (rowD [1, 1, 1, 1, 1])) [.d .non] := by
  rw [is_ring_row]
  kernel_rfl
theorem lap_5 : lawBody [a0, a1, some (.d (.int 5)), a3, a4, a5, a6, a7, a8] = .ok .nx [a0, a1, some (.d (.int 5)), some (.d (rowD [1, 1, 1, 1, 1])), some (.d (rowD [-1, 0, 0, 0, 0, 1])), some (.d (.int 5)), some (.own (.lst [.int 1, .int 2, .int 3, .int 4])), a7, a8] :=
  lap_of rr_5 (by kernel_rfl) hrow_5 (by kernel_rfl) (by kernel_rfl)
theorem rr_6 : F_ring_row [.d (.int 6)] = .ok (.d (rowD [1, -1, 1])) [.d .non] := by
  rw [is_ring_row]
  kernel_rfl
theorem lap_6 : lawBody [a0, a1, some (.d (.int 6)), a3, a4, a5, a6, a7, a8] = .ok .nx [a0, a1, some (.d (.int 6)), some (.d (rowD [1, -1, 1])), some (.d (rowD [-1, 0, 0, 0, 0, 0, 1])), some (.d (.int 6)), some (.own (.lst [.int 1, .int 5])), a7, a8] :=
  lap_of rr_6 (by kernel_rfl) hrow_6 (by kernel_rfl) (by kernel_rfl)
theorem rr_7 : F_ring_row [.d (.int 7)] = .ok (.d (rowD [1, 1, 1, 1, 1, 1, 1])) [.d .non] := by
  rw [is_ring_row]
  kernel_rfl
theorem lap_7 : lawBody [a0, a1, some (.d (.int 7)), a3, a4, a5, a6, a7, a8] = .ok .nx [a0, a1, some (.d (.int 7)), some (.d (rowD [1, 1, 1, 1, 1, 1, 1])), some (.d (rowD [-1, 0, 0, 0, 0, 0, 0, 1])), some (.d (.int 7)), some (.own (.lst [.int 1, .int 2, .int 3, .int 4, .int 5, .int 6])), a7, a8] :=
  lap_of rr_7 (by kernel_rfl) hrow_7 (by kernel_rfl) (by kernel_rfl)
theorem rr_8 : F_ring_row [.d (.int 8)] = .ok (.d (rowD [1, 0, 0, 0, 1])) [.d .non] := by
  rw [is_ring_row]
  kernel_rfl
theorem lap_8 : lawBody [a0, a1, some (.d (.int 8)), a3, a4, a5, a6, a7, a8] = .ok .nx [a0, a1, some (.d (.int 8)), some (.d (rowD [1, 0, 0, 0, 1])), some (.d (rowD [-1, 0, 0, 0, 0, 0, 0, 0, 1])), some (.d (.int 8)), some (.own (.lst [.int 1, .int 3, .int 5, .int 7])), a7, a8] :=
  lap_of rr_8 (by kernel_rfl) hrow_8 (by kernel_rfl) (by kernel_rfl)
theorem rr_9 : F_ring_row [.d (.int 9)] = .ok (.d (rowD [1, 0, 0, 1, 0, 0, 1])) [.d .non] := by
  rw [is_ring_row]
  kernel_rfl
theorem lap_9 : lawBody [a0, a1, some (.d (.int 9)), a3, a4, a5, a6, a7, a8] = .ok .nx [a0, a1, some (.d (.int 9)), some (.d (rowD [1, 0, 0, 1, 0, 0, 1])), some (.d (rowD [-1, 0, 0, 0, 0, 0, 0, 0, 0, 1])), some (.d (.int 9)), some (.own (.lst [.int 1, .int 2, .int 4, .int 5, .int 7, .int 8])), a7, a8] :=
  lap_of rr_9 (by kernel_rfl) hrow_9 (by kernel_rfl) (by kernel_rfl)
theorem rr_10 : F_ring_row [.d (.int 10)] = .ok (.d (rowD [1, -1, 1, -1, 1])) [.d .non] := by
  rw [is_ring_row]
  kernel_rfl
theorem lap_10 : lawBody [a0, a1, some (.d (.int 10)), a3, a4, a5, a6, a7, a8] = .ok .nx [a0, a1, some (.d (.int 10)), some (.d (rowD [1, -1, 1, -1, 1])), some (.d (rowD [-1, 0, 0, 0, 0, 0, 0, 0, 0, 0, 1])), some (.d (.int 10)), some (.own (.lst [.int 1, .int 3, .int 7, .int 9])), a7, a8] :=
  lap_of rr_10 (by kernel_rfl) hrow_10 (by kernel_rfl) (by kernel_rfl)
theorem rr_11 : F_ring_row [.d (.int 11)] = .ok (.d (rowD [1, 1, 1, 1, 1, 1, 1, 1, 1, 1, 1])) [.d .non] := by
  rw [is_ring_row]
  kernel_rfl
theorem lap_11 : lawBody [a0, a1, some (.d (.int 11)), a3, a4, a5, a6, a7, a8] = .ok .nx [a0, a1, some (.d (.int 11)), some (.d (rowD [1, 1, 1, 1, 1, 1, 1, 1, 1, 1, 1])), some (.d (rowD [-1, 0, 0, 0, 0, 0, 0, 0, 0, 0, 0, 1])), some (.d (.int 11)), some (.own (.lst [.int 1, .int 2, .int 3, .int 4, .int 5, .int 6, .int 7, .int 8, .int 9, .int 10])), a7, a8] :=
  lap_of rr_11 (by kernel_rfl) hrow_11 (by kernel_rfl) (by kernel_rfl)
theorem rr_12 : F_ring_row [.d (.int 12)] = .ok (.d (rowD [1, 0, -1, 0, 1])) [.d .non] := by
  rw [is_ring_row]
  kernel_rfl
theorem lap_12 : lawBody [a0, a1, some (.d (.int 12)), a3, a4, a5, a6, a7, a8] = .ok .nx [a0, a1, some (.d (.int 12)), some (.d (rowD [1, 0, -1, 0, 1])), some (.d (rowD [-1, 0, 0, 0, 0, 0, 0, 0, 0, 0, 0, 0, 1])), some (.d (.int 12)), some (.own (.lst [.int 1, .int 5, .int 7, .int 11])), a7, a8] :=
  lap_of rr_12 (by kernel_rfl) hrow_12 (by kernel_rfl) (by kernel_rfl)
theorem rr_13 : F_ring_row [.d (.int 13)] = .ok (.d (rowD [1, 1, 1, 1, 1, 1, 1, 1, 1, 1, 1, 1, 1])) [.d .non] := by
  rw [is_ring_row]
  kernel_rfl
theorem lap_13 : lawBody [a0, a1, some (.d (.int 13)), a3, a4, a5, a6, a7, a8] = .ok .nx [a0, a1, some (.d (.int 13)), some (.d (rowD [1, 1, 1, 1, 1, 1, 1, 1, 1, 1, 1, 1, 1])), some (.d (rowD [-1, 0, 0, 0, 0, 0, 0, 0, 0, 0, 0, 0, 0, 1])), some (.d (.int 13)), some (.own (.lst [.int 1, .int 2, .int 3, .int 4, .int 5, .int 6, .int 7, .int 8, .int 9, .int 10, .int 11, .int 12])), a7, a8] :=
  lap_of rr_13 (by kernel_rfl) hrow_13 (by kernel_rfl) (by kernel_rfl)
theorem rr_14 : F_ring_row [.d (.int 14)] = .ok (.d (rowD [1, -1, 1, -1, 1, -1, 1])) [.d .non] := by
  rw [is_ring_row]
  kernel_rfl
theorem lap_14 : lawBody [a0, a1, some (.d (.int 14)), a3, a4, a5, a6, a7, a8] = .ok .nx [a0, a1, some (.d (.int 14)), some (.d (rowD [1, -1, 1, -1, 1, -1, 1])), some (.d (rowD [-1, 0, 0, 0, 0, 0, 0, 0, 0, 0, 0, 0, 0, 0, 1])), some (.d (.int 14)), some (.own (.lst [.int 1, .int 3, .int 5, .int 9, .int 11, .int 13])), a7, a8] :=
  lap_of rr_14 (by kernel_rfl) hrow_14 (by kernel_rfl) (by kernel_rfl)
theorem rr_15 : F_ring_row [.d (.int 15)] = .ok (.d (rowD [1, -1, 0, 1, -1, 1, 0, -1, 1])) [.d .non] := by
  rw [is_ring_row]
  kernel_rfl
theorem lap_15 : lawBody [a0, a1, some (.d (.int 15)), a3, a4, a5, a6, a7, a8] = .ok .nx [a0, a1, some (.d (.int 15)), some (.d (rowD [1, -1, 0, 1, -1, 1, 0, -1, 1])), some (.d (rowD [-1, 0, 0, 0, 0, 0, 0, 0, 0, 0, 0, 0, 0, 0, 0, 1])), some (.d (.int 15)), some (.own (.lst [.int 1, .int 2, .int 4, .int 7, .int 8, .int 11, .int 13, .int 14])), a7, a8] :=
  lap_of rr_15 (by kernel_rfl) hrow_15 (by kernel_rfl) (by kernel_rfl)
theorem rr_16 : F_ring_row [.d (.int 16)] = .ok (.d (rowD [1, 0, 0, 0, 0, 0, 0, 0, 1])) [.d .non] := by
  rw [is_ring_row]
  kernel_rfl
theorem lap_16 : lawBody [a0, a1, some (.d (.int 16)), a3, a4, a5, a6, a7, a8] = .ok .nx [a0, a1, some (.d (.int 16)), some (.d (rowD [1, 0, 0, 0, 0, 0, 0, 0, 1])), some (.d (rowD [-1, 0, 0, 0, 0, 0, 0, 0, 0, 0, 0, 0, 0, 0, 0, 0, 1])), some (.d (.int 16)), some (.own (.lst [.int 1, .int 3, .int 5, .int 7, .int 9, .int 11, .int 13, .int 15])), a7, a8] :=
  lap_of rr_16 (by kernel_rfl) hrow_16 (by kernel_rfl) (by kernel_rfl)
theorem rr_17 : F_ring_row [.d (.int 17)] = .ok (.d (rowD [1, 1, 1, 1, 1, 1, 1, 1, 1, 1, 1, 1, 1, 1, 1, 1, 1])) [.d .non] := by
  rw [is_ring_row]
  kernel_rfl
theorem lap_17 : lawBody [a0, a1, some (.d (.int 17)), a3, a4, a5, a6, a7, a8] = .ok .nx [a0, a1, some (.d (.int 17)), some (.d (rowD [1, 1, 1, 1, 1, 1, 1, 1, 1, 1, 1, 1, 1, 1, 1, 1, 1])), some (.d (rowD [-1, 0, 0, 0, 0, 0, 0, 0, 0, 0, 0, 0, 0, 0, 0, 0, 0, 1])), some (.d (.int 17)), some (.own (.lst [.int 1, .int 2, .int 3, .int 4, .int 5, .int 6, .int 7, .int 8, .int 9, .int 10, .int 11, .int 12, .int 13, .int 14, .int 15, .int 16])), a7, a8] :=
  lap_of rr_17 (by kernel_rfl) hrow_17 (by kernel_rfl) (by kernel_rfl)
theorem rr_18 : F_ring_row [.d (.int 18)] = .ok (.d (rowD [1, 0, 0, -1, 0, 0, 1])) [.d .non] := by
  rw [is_ring_row]
  kernel_rfl
theorem lap_18 : lawBody [a0, a1, some (.d (.int 18)), a3, a4, a5, a6, a7, a8] = .ok .nx [a0, a1, some (.d (.int 18)), some (.d (rowD [1, 0, 0, -1, 0, 0, 1])), some (.d (rowD [-1, 0, 0, 0, 0, 0, 0, 0, 0, 0, 0, 0, 0, 0, 0, 0, 0, 0, 1])), some (.d (.int 18)), some (.own (.lst [.int 1, .int 5, .int 7, .int 11, .int 13, .int 17])), a7, a8] :=
  lap_of rr_18 (by kernel_rfl) hrow_18 (by kernel_rfl) (by kernel_rfl)
theorem rr_19 : F_ring_row [.d (.int 19)] = .ok (.d (rowD [1, 1, 1, 1, 1, 1, 1, 1, 1, 1, 1, 1, 1, 1, 1, 1, 1, 1, 1])) [.d .non] := by
  rw [is_ring_row]
  kernel_rfl
theorem lap_19 : lawBody [a0, a1, some (.d (.int 19)), a3, a4, a5, a6, a7, a8] = .ok .nx [a0, a1, some (.d (.int 19)), some (.d (rowD [1, 1, 1, 1, 1, 1, 1, 1, 1, 1, 1, 1, 1, 1, 1, 1, 1, 1, 1])), some (.d (rowD [-1, 0, 0, 0, 0, 0, 0, 0, 0, 0, 0, 0, 0, 0, 0, 0, 0, 0, 0, 1])), some (.d (.int 19)), some (.own (.lst [.int 1, .int 2, .int 3, .int 4, .int 5, .int 6, .int 7, .int 8, .int 9, .int 10, .int 11, .int 12, .int 13, .int 14, .int 15, .int 16, .int 17, .int 18])), a7, a8] :=
  lap_of rr_19 (by kernel_rfl) hrow_19 (by kernel_rfl) (by kernel_rfl)
theorem rr_20 : F_ring_row [.d (.int 20)] = .ok (.d (rowD [1, 0, -1, 0, 1, 0, -1, 0, 1])) [.d .non] := by
  rw [is_ring_row]
  kernel_rfl
theorem lap_20 : lawBody [a0, a1, some (.d (.int 20)), a3, a4, a5, a6, a7, a8] = .ok .nx [a0, a1, some (.d (.int 20)), some (.d (rowD [1, 0, -1, 0, 1, 0, -1, 0, 1])), some (.d (rowD [-1, 0, 0, 0, 0, 0, 0, 0, 0, 0, 0, 0, 0, 0, 0, 0, 0, 0, 0, 0, 1])), some (.d (.int 20)), some (.own (.lst [.int 1, .int 3, .int 7, .int 9, .int 11, .int 13, .int 17, .int 19])), a7, a8] :=
  lap_of rr_20 (by kernel_rfl) hrow_20 (by kernel_rfl) (by kernel_rfl)
theorem rr_21 : F_ring_row [.d (.int 21)] = .ok (.d (rowD [1, -1, 0, 1, -1, 0, 1, 0, -1, 1, 0, -1, 1])) [.d .non] := by
  rw [is_ring_row]
  kernel_rfl
theorem lap_21 : lawBody [a0, a1, some (.d (.int 21)), a3, a4, a5, a6, a7, a8] = .ok .nx [a0, a1, some (.d (.int 21)), some (.d (rowD [1, -1, 0, 1, -1, 0, 1, 0, -1, 1, 0, -1, 1])), some (.d (rowD [-1, 0, 0, 0, 0, 0, 0, 0, 0, 0, 0, 0, 0, 0, 0, 0, 0, 0, 0, 0, 0, 1])), some (.d (.int 21)), some (.own (.lst [.int 1, .int 2, .int 4, .int 5, .int 8, .int 10, .int 11, .int 13, .int 16, .int 17, .int 19, .int 20])), a7, a8] :=
  lap_of rr_21 (by kernel_rfl) hrow_21 (by kernel_rfl) (by kernel_rfl)
theorem rr_22 : F_ring_row [.d (.int 22)] = .ok (.d (rowD [1, -1, 1, -1, 1, -1, 1, -1, 1, -1, 1])) [.d .non] := by
  rw [is_ring_row]
  kernel_rfl
theorem lap_22 : lawBody [a0, a1, some (.d (.int 22)), a3, a4, a5, a6, a7, a8] = .ok .nx [a0, a1, some (.d (.int 22)), some (.d (rowD [1, -1, 1, -1, 1, -1, 1, -1, 1, -1, 1])), some (.d (rowD [-1, 0, 0, 0, 0, 0, 0, 0, 0, 0, 0, 0, 0, 0, 0, 0, 0, 0, 0, 0, 0, 0, 1])), some (.d (.int 22)), some (.own (.lst [.int 1, .int 3, .int 5, .int 7, .int 9, .int 13, .int 15, .int 17, .int 19, .int 21])), a7, a8] :=
  lap_of rr_22 (by kernel_rfl) hrow_22 (by kernel_rfl) (by kernel_rfl)
theorem rr_23 : F_ring_row [.d (.int 23)] = .ok (.d (rowD [1, 1, 1, 1, 1, 1, 1, 1, 1, 1, 1, 1, 1, 1, 1, 1, 1, 1, 1, 1, 1, 1, 1])) [.d .non] := by
  rw [is_ring_row]
  kernel_rfl
theorem lap_23 : lawBody [a0, a1, some (.d (.int 23)), a3, a4, a5, a6, a7, a8] = .ok .nx [a0, a1, some (.d (.int 23)), some (.d (rowD [1, 1, 1, 1, 1, 1, 1, 1, 1, 1, 1, 1, 1, 1, 1, 1, 1, 1, 1, 1, 1, 1, 1])), some (.d (rowD [-1, 0, 0, 0, 0, 0, 0, 0, 0, 0, 0, 0, 0, 0, 0, 0, 0, 0, 0, 0, 0, 0, 0, 1])), some (.d (.int 23)), some (.own (.lst [.int 1, .int 2, .int 3, .int 4, .int 5, .int 6, .int 7, .int 8, .int 9, .int 10, .int 11, .int 12, .int 13, .int 14, .int 15, .int 16, .int 17, .int 18, .int 19, .int 20, .int 21, .int 22])), a7, a8] :=
  lap_of rr_23 (by kernel_rfl) hrow_23 (by kernel_rfl) (by kernel_rfl)
theorem rr_24 : F_ring_row [.d (.int 24)] = .ok (.d (rowD [1, 0, 0, 0, -1, 0, 0, 0, 1])) [.d .non] := by
  rw [is_ring_row]
  kernel_rfl
theorem lap_24 : lawBody [a0, a1, some (.d (.int 24)), a3, a4, a5, a6, a7, a8] = .ok .nx [a0, a1, some (.d (.int 24)), some (.d (rowD [1, 0, 0, 0, -1, 0, 0, 0, 1])), some (.d (rowD [-1, 0, 0, 0, 0, 0, 0, 0, 0, 0, 0, 0, 0, 0, 0, 0, 0, 0, 0, 0, 0, 0, 0, 0, 1])), some (.d (.int 24)), some (.own (.lst [.int 1, .int 5, .int 7, .int 11, .int 13, .int 17, .int 19, .int 23])), a7, a8] :=
  lap_of rr_24 (by kernel_rfl) hrow_24 (by kernel_rfl) (by kernel_rfl)
theorem rr_25 : F_ring_row [.d (.int 25)] = .ok (.d (rowD [1, 0, 0, 0, 0, 1, 0, 0, 0, 0, 1, 0, 0, 0, 0, 1, 0, 0, 0, 0, 1])) [.d .non] := by
  rw [is_ring_row]
  kernel_rfl
theorem lap_25 : lawBody [a0, a1, some (.d (.int 25)), a3, a4, a5, a6, a7, a8] = .ok .nx [a0, a1, some (.d (.int 25)), some (.d (rowD [1, 0, 0, 0, 0, 1, 0, 0, 0, 0, 1, 0, 0, 0, 0, 1, 0, 0, 0, 0, 1])), some (.d (rowD [-1, 0, 0, 0, 0, 0, 0, 0, 0, 0, 0, 0, 0, 0, 0, 0, 0, 0, 0, 0, 0, 0, 0, 0, 0, 1])), some (.d (.int 25)), some (.own (.lst [.int 1, .int 2, .int 3, .int 4, .int 6, .int 7, .int 8, .int 9, .int 11, .int 12, .int 13, .int 14, .int 16, .int 17, .int 18, .int 19, .int 21, .int 22, .int 23, .int 24])), a7, a8] :=
  lap_of rr_25 (by kernel_rfl) hrow_25 (by kernel_rfl) (by kernel_rfl)
theorem rr_26 : F_ring_row [.d (.int 26)] = .ok (.d (rowD [1, -1, 1, -1, 1, -1, 1, -1, 1, -1, 1, -1, 1])) [.d .non] := by
  rw [is_ring_row]
  kernel_rfl
theorem lap_26 : lawBody [a0, a1, some (.d (.int 26)), a3, a4, a5, a6, a7, a8] = .ok .nx [a0, a1, some (.d (.int 26)), some (.d (rowD [1, -1, 1, -1, 1, -1, 1, -1, 1, -1, 1, -1, 1])), some (.d (rowD [-1, 0, 0, 0, 0, 0, 0, 0, 0, 0, 0, 0, 0, 0, 0, 0, 0, 0, 0, 0, 0, 0, 0, 0, 0, 0, 1])), some (.d (.int 26)), some (.own (.lst [.int 1, .int 3, .int 5, .int 7, .int 9, .int 11, .int 15, .int 17, .int 19, .int 21, .int 23, .int 25])), a7, a8] :=
  lap_of rr_26 (by kernel_rfl) hrow_26 (by kernel_rfl) (by kernel_rfl)
theorem rr_27 : F_ring_row [.d (.int 27)] = .ok (.d (rowD [1, 0, 0, 0, 0, 0, 0, 0, 0, 1, 0, 0, 0, 0, 0, 0, 0, 0, 1])) [.d .non] := by
  rw [is_ring_row]
  kernel_rfl
theorem lap_27 : lawBody [a0, a1, some (.d (.int 27)), a3, a4, a5, a6, a7, a8] = .ok .nx [a0, a1, some (.d (.int 27)), some (.d (rowD [1, 0, 0, 0, 0, 0, 0, 0, 0, 1, 0, 0, 0, 0, 0, 0, 0, 0, 1])), some (.d (rowD [-1, 0, 0, 0, 0, 0, 0, 0, 0, 0, 0, 0, 0, 0, 0, 0, 0, 0, 0, 0, 0, 0, 0, 0, 0, 0, 0, 1])), some (.d (.int 27)), some (.own (.lst [.int 1, .int 2, .int 4, .int 5, .int 7, .int 8, .int 10, .int 11, .int 13, .int 14, .int 16, .int 17, .int 19, .int 20, .int 22, .int 23, .int 25, .int 26])), a7, a8] :=
  lap_of rr_27 (by kernel_rfl) hrow_27 (by kernel_rfl) (by kernel_rfl)
theorem rr_28 : F_ring_row [.d (.int 28)] = .ok (.d (rowD [1, 0, -1, 0, 1, 0, -1, 0, 1, 0, -1, 0, 1])) [.d .non] := by
  rw [is_ring_row]
  kernel_rfl
theorem lap_28 : lawBody [a0, a1, some (.d (.int 28)), a3, a4, a5, a6, a7, a8] = .ok .nx [a0, a1, some (.d (.int 28)), some (.d (rowD [1, 0, -1, 0, 1, 0, -1, 0, 1, 0, -1, 0, 1])), some (.d (rowD [-1, 0, 0, 0, 0, 0, 0, 0, 0, 0, 0, 0, 0, 0, 0, 0, 0, 0, 0, 0, 0, 0, 0, 0, 0, 0, 0, 0, 1])), some (.d (.int 28)), some (.own (.lst [.int 1, .int 3, .int 5, .int 9, .int 11, .int 13, .int 15, .int 17, .int 19, .int 23, .int 25, .int 27])), a7, a8] :=
  lap_of rr_28 (by kernel_rfl) hrow_28 (by kernel_rfl) (by kernel_rfl)
theorem rr_29 : F_ring_row [.d (.int 29)] = .ok (.d (rowD [1, 1, 1, 1, 1, 1, 1, 1, 1, 1, 1, 1, 1, 1, 1, 1, 1, 1, 1, 1, 1, 1, 1, 1, 1, 1, 1, 1, 1])) [.d .non] := by
  rw [is_ring_row]
  kernel_rfl
theorem lap_29 : lawBody [a0, a1, some (.d (.int 29)), a3, a4, a5, a6, a7, a8] = .ok .nx [a0, a1, some (.d (.int 29)), some (.d (rowD [1, 1, 1, 1, 1, 1, 1, 1, 1, 1, 1, 1, 1, 1, 1, 1, 1, 1, 1, 1, 1, 1, 1, 1, 1, 1, 1, 1, 1])), some (.d (rowD [-1, 0, 0, 0, 0, 0, 0, 0, 0, 0, 0, 0, 0, 0, 0, 0, 0, 0, 0, 0, 0, 0, 0, 0, 0, 0, 0, 0, 0, 1])), some (.d (.int 29)), some (.own (.lst [.int 1, .int 2, .int 3, .int 4, .int 5, .int 6, .int 7, .int 8, .int 9, .int 10, .int 11, .int 12, .int 13, .int 14, .int 15, .int 16, .int 17, .int 18, .int 19, .int 20, .int 21, .int 22, .int 23, .int 24, .int 25, .int 26, .int 27, .int 28])), a7, a8] :=
  lap_of rr_29 (by kernel_rfl) hrow_29 (by kernel_rfl) (by kernel_rfl)
end
end K19
end FL
set_option Elab.async false
set_option linter.all false
set_option maxRecDepth 100000
set_option maxHeartbeats 0
namespace FL
namespace K19
open PySem PySem.Spec L2
open PyProof.Rows hiding St
section
variable (a0 a1 a3 a4 a5 a6 a7 a8 : Option W)
theorem rr_30 : F_ring_row [.d (.int 30)] = .ok (.d (rowD [1, 1, 0, -1, -1, -1, 0, 1, 1])) [.d .non] := by
  rw [is_ring_row]
  kernel_rfl
theorem lap_30 : lawBody [a0, a1, some (.d (.int 30)), a3, a4, a5, a6, a7, a8] = .ok .nx [a0, a1, some (.d (.int 30)), some (.d (rowD [1, 1, 0, -1, -1, -1, 0, 1, 1])), some (.d (rowD [-1, 0, 0, 0, 0, 0, 0, 0, 0, 0, 0, 0, 0, 0, 0, 0, 0, 0, 0, 0, 0, 0, 0, 0, 0, 0, 0, 0, 0, 0, 1])), some (.d (.int 30)), some (.own (.lst [.int 1, .int 7, .int 11, .int 13, .int 17, .int 19, .int 23, .int 29])), a7, a8] :=
  lap_of rr_30 (by kernel_rfl) hrow_30 (by kernel_rfl) (by kernel_rfl)
theorem rr_31 : F_ring_row [.d (.int 31)] = .ok (.d (rowD [1, 1, 1, 1, 1, 1, 1, 1, 1, 1, 1, 1, 1, 1, 1, 1, 1, 1, 1, 1, 1, 1, 1, 1, 1, 1, 1, 1, 1, 1, 1])) [.d .non] := by
  rw [is_ring_row]
  kernel_rfl
theorem lap_31 : lawBody [a0, a1, some (.d (.int 31)), a3, a4, a5, a6, a7, a8] = .ok .nx [a0, a1, some (.d (.int 31)), some (.d (rowD [1, 1, 1, 1, 1, 1, 1, 1, 1, 1, 1, 1, 1, 1, 1, 1, 1, 1, 1, 1, 1, 1, 1, 1, 1, 1, 1, 1, 1, 1, 1])), some (.d (rowD [-1, 0, 0, 0, 0, 0, 0, 0, 0, 0, 0, 0, 0, 0, 0, 0, 0, 0, 0, 0, 0, 0, 0, 0, 0, 0, 0, 0, 0, 0, 0, 1])), some (.d (.int 31)), some (.own (.lst [.int 1, .int 2, .int 3, .int 4, .int 5, .int 6, .int 7, .int 8, .int 9, .int 10, .int 11, .int 12, .int 13, .int 14, .int 15, .int 16, .int 17, .int 18, .int 19, .int 20, .int 21, .int 22, .int 23, .int 24, .int 25, .int 26, .int 27, .int 28, .int 29, .int 30])), a7, a8] :=
  lap_of rr_31 (by kernel_rfl) hrow_31 (by kernel_rfl) (by kernel_rfl)
theorem rr_32 : F_ring_row [.d (.int 32)] = .ok (.d (rowD [1, 0, 0, 0, 0, 0, 0, 0, 0, 0, 0, 0, 0, 0, 0, 0, 1])) [.d .non] := by
  rw [is_ring_row]
  kernel_rfl
theorem lap_32 : lawBody [a0, a1, some (.d (.int 32)), a3, a4, a5, a6, a7, a8] = .ok .nx [a0, a1, some (.d (.int 32)), some (.d (rowD [1, 0, 0, 0, 0, 0, 0, 0, 0, 0, 0, 0, 0, 0, 0, 0, 1])), some (.d (rowD [-1, 0, 0, 0, 0, 0, 0, 0, 0, 0, 0, 0, 0, 0, 0, 0, 0, 0, 0, 0, 0, 0, 0, 0, 0, 0, 0, 0, 0, 0, 0, 0, 1])), some (.d (.int 32)), some (.own (.lst [.int 1, .int 3, .int 5, .int 7, .int 9, .int 11, .int 13, .int 15, .int 17, .int 19, .int 21, .int 23, .int 25, .int 27, .int 29, .int 31])), a7, a8] :=
  lap_of rr_32 (by kernel_rfl) hrow_32 (by kernel_rfl) (by kernel_rfl)
theorem rr_33 : F_ring_row [.d (.int 33)] = .ok (.d (rowD [1, -1, 0, 1, -1, 0, 1, -1, 0, 1, -1, 1, 0, -1, 1, 0, -1, 1, 0, -1, 1])) [.d .non] := by
  rw [is_ring_row]
  kernel_rfl
theorem lap_33 : lawBody [a0, a1, some (.d (.int 33)), a3, a4, a5, a6, a7, a8] = .ok .nx [a0, a1, some (.d (.int 33)), some (.d (rowD [1, -1, 0, 1, -1, 0, 1, -1, 0, 1, -1, 1, 0, -1, 1, 0, -1, 1, 0, -1, 1])), some (.d (rowD [-1, 0, 0, 0, 0, 0, 0, 0, 0, 0, 0, 0, 0, 0, 0, 0, 0, 0, 0, 0, 0, 0, 0, 0, 0, 0, 0, 0, 0, 0, 0, 0, 0, 1])), some (.d (.int 33)), some (.own (.lst [.int 1, .int 2, .int 4, .int 5, .int 7, .int 8, .int 10, .int 13, .int 14, .int 16, .int 17, .int 19, .int 20, .int 23, .int 25, .int 26, .int 28, .int 29, .int 31, .int 32])), a7, a8] :=
  lap_of rr_33 (by kernel_rfl) hrow_33 (by kernel_rfl) (by kernel_rfl)
theorem rr_34 : F_ring_row [.d (.int 34)] = .ok (.d (rowD [1, -1, 1, -1, 1, -1, 1, -1, 1, -1, 1, -1, 1, -1, 1, -1, 1])) [.d .non] := by
  rw [is_ring_row]
  kernel_rfl
theorem lap_34 : lawBody [a0, a1, some (.d (.int 34)), a3, a4, a5, a6, a7, a8] = .ok .nx [a0, a1, some (.d (.int 34)), some (.d (rowD [1, -1, 1, -1, 1, -1, 1, -1, 1, -1, 1, -1, 1, -1, 1, -1, 1])), some (.d (rowD [-1, 0, 0, 0, 0, 0, 0, 0, 0, 0, 0, 0, 0, 0, 0, 0, 0, 0, 0, 0, 0, 0, 0, 0, 0, 0, 0, 0, 0, 0, 0, 0, 0, 0, 1])), some (.d (.int 34)), some (.own (.lst [.int 1, .int 3, .int 5, .int 7, .int 9, .int 11, .int 13, .int 15, .int 19, .int 21, .int 23, .int 25, .int 27, .int 29, .int 31, .int 33])), a7, a8] :=
  lap_of rr_34 (by kernel_rfl) hrow_34 (by kernel_rfl) (by kernel_rfl)
theorem rr_35 : F_ring_row [.d (.int 35)] = .ok (.d (rowD [1, -1, 0, 0, 0, 1, -1, 1, -1, 0, 1, -1, 1, -1, 1, 0, -1, 1, -1, 1, 0, 0, 0, -1, 1])) [.d .non] := by
  rw [is_ring_row]
  kernel_rfl
theorem lap_35 : lawBody [a0, a1, some (.d (.int 35)), a3, a4, a5, a6, a7, a8] = .ok .nx [a0, a1, some (.d (.int 35)), some (.d (rowD [1, -1, 0, 0, 0, 1, -1, 1, -1, 0, 1, -1, 1, -1, 1, 0, -1, 1, -1, 1, 0, 0, 0, -1, 1])), some (.d (rowD [-1, 0, 0, 0, 0, 0, 0, 0, 0, 0, 0, 0, 0, 0, 0, 0, 0, 0, 0, 0, 0, 0, 0, 0, 0, 0, 0, 0, 0, 0, 0, 0, 0, 0, 0, 1])), some (.d (.int 35)), some (.own (.lst [.int 1, .int 2, .int 3, .int 4, .int 6, .int 8, .int 9, .int 11, .int 12, .int 13, .int 16, .int 17, .int 18, .int 19, .int 22, .int 23, .int 24, .int 26, .int 27, .int 29, .int 31, .int 32, .int 33, .int 34])), a7, a8] :=
  lap_of rr_35 (by kernel_rfl) hrow_35 (by kernel_rfl) (by kernel_rfl)
theorem rr_36 : F_ring_row [.d (.int 36)] = .ok (.d (rowD [1, 0, 0, 0, 0, 0, -1, 0, 0, 0, 0, 0, 1])) [.d .non] := by
  rw [is_ring_row]
  kernel_rfl
theorem lap_36 : lawBody [a0, a1, some (.d (.int 36)), a3, a4, a5, a6, a7, a8] = .ok .nx [a0, a1, some (.d (.int 36)), some (.d (rowD [1, 0, 0, 0, 0, 0, -1, 0, 0, 0, 0, 0, 1])), some (.d (rowD [-1, 0, 0, 0, 0, 0, 0, 0, 0, 0, 0, 0, 0, 0, 0, 0, 0, 0, 0, 0, 0, 0, 0, 0, 0, 0, 0, 0, 0, 0, 0, 0, 0, 0, 0, 0, 1])), some (.d (.int 36)), some (.own (.lst [.int 1, .int 5, .int 7, .int 11, .int 13, .int 17, .int 19, .int 23, .int 25, .int 29, .int 31, .int 35])), a7, a8] :=
  lap_of rr_36 (by kernel_rfl) hrow_36 (by kernel_rfl) (by kernel_rfl)
theorem rr_37 : F_ring_row [.d (.int 37)] = .ok (.d (rowD [1, 1, 1, 1, 1, 1, 1, 1, 1, 1, 1, 1, 1, 1, 1, 1, 1, 1, 1, 1, 1, 1, 1, 1, 1, 1, 1, 1, 1, 1, 1, 1, 1, 1, 1, 1, 1])) [.d .non] := by
  rw [is_ring_row]
  kernel_rfl
theorem lap_37 : lawBody [a0, a1, some (.d (.int 37)), a3, a4, a5, a6, a7, a8] = .ok .nx [a0, a1, some (.d (.int 37)), some (.d (rowD [1, 1, 1, 1, 1, 1, 1, 1, 1, 1, 1, 1, 1, 1, 1, 1, 1, 1, 1, 1, 1, 1, 1, 1, 1, 1, 1, 1, 1, 1, 1, 1, 1, 1, 1, 1, 1])), some (.d (rowD [-1, 0, 0, 0, 0, 0, 0, 0, 0, 0, 0, 0, 0, 0, 0, 0, 0, 0, 0, 0, 0, 0, 0, 0, 0, 0, 0, 0, 0, 0, 0, 0, 0, 0, 0, 0, 0, 1])), some (.d (.int 37)), some (.own (.lst [.int 1, .int 2, .int 3, .int 4, .int 5, .int 6, .int 7, .int 8, .int 9, .int 10, .int 11, .int 12, .int 13, .int 14, .int 15, .int 16, .int 17, .int 18, .int 19, .int 20, .int 21, .int 22, .int 23, .int 24, .int 25, .int 26, .int 27, .int 28, .int 29, .int 30, .int 31, .int 32, .int 33, .int 34, .int 35, .int 36])), a7, a8] :=
  lap_of rr_37 (by kernel_rfl) hrow_37 (by kernel_rfl) (by kernel_rfl)
theorem rr_38 : F_ring_row [.d (.int 38)] = .ok (.d (rowD [1, -1, 1, -1, 1, -1, 1, -1, 1, -1, 1, -1, 1, -1, 1, -1, 1, -1, 1])) [.d .non] := by
  rw [is_ring_row]
  kernel_rfl
theorem lap_38 : lawBody [a0, a1, some (.d (.int 38)), a3, a4, a5, a6, a7, a8] = .ok .nx [a0, a1, some (.d (.int 38)), some (.d (rowD [1, -1, 1, -1, 1, -1, 1, -1, 1, -1, 1, -1, 1, -1, 1, -1, 1, -1, 1])), some (.d (rowD [-1, 0, 0, 0, 0, 0, 0, 0, 0, 0, 0, 0, 0, 0, 0, 0, 0, 0, 0, 0, 0, 0, 0, 0, 0, 0, 0, 0, 0, 0, 0, 0, 0, 0, 0, 0, 0, 0, 1])), some (.d (.int 38)), some (.own (.lst [.int 1, .int 3, .int 5, .int 7, .int 9, .int 11, .int 13, .int 15, .int 17, .int 21, .int 23, .int 25, .int 27, .int 29, .int 31, .int 33, .int 35, .int 37])), a7, a8] :=
  lap_of rr_38 (by kernel_rfl) hrow_38 (by kernel_rfl) (by kernel_rfl)
theorem rr_39 : F_ring_row [.d (.int 39)] = .ok (.d (rowD [1, -1, 0, 1, -1, 0, 1, -1, 0, 1, -1, 0, 1, 0, -1, 1, 0, -1, 1, 0, -1, 1, 0, -1, 1])) [.d .non] := by
  rw [is_ring_row]
  kernel_rfl
theorem lap_39 : lawBody [a0, a1, some (.d (.int 39)), a3, a4, a5, a6, a7, a8] = .ok .nx [a0, a1, some (.d (.int 39)), some (.d (rowD [1, -1, 0, 1, -1, 0, 1, -1, 0, 1, -1, 0, 1, 0, -1, 1, 0, -1, 1, 0, -1, 1, 0, -1, 1])), some (.d (rowD [-1, 0, 0, 0, 0, 0, 0, 0, 0, 0, 0, 0, 0, 0, 0, 0, 0, 0, 0, 0, 0, 0, 0, 0, 0, 0, 0, 0, 0, 0, 0, 0, 0, 0, 0, 0, 0, 0, 0, 1])), some (.d (.int 39)), some (.own (.lst [.int 1, .int 2, .int 4, .int 5, .int 7, .int 8, .int 10, .int 11, .int 14, .int 16, .int 17, .int 19, .int 20, .int 22, .int 23, .int 25, .int 28, .int 29, .int 31, .int 32, .int 34, .int 35, .int 37, .int 38])), a7, a8] :=
  lap_of rr_39 (by kernel_rfl) hrow_39 (by kernel_rfl) (by kernel_rfl)
theorem rr_40 : F_ring_row [.d (.int 40)] = .ok (.d (rowD [1, 0, 0, 0, -1, 0, 0, 0, 1, 0, 0, 0, -1, 0, 0, 0, 1])) [.d .non] := by
  rw [is_ring_row]
  kernel_rfl
theorem lap_40 : lawBody [a0, a1, some (.d (.int 40)), a3, a4, a5, a6, a7, a8] = .ok .nx [a0, a1, some (.d (.int 40)), some (.d (rowD [1, 0, 0, 0, -1, 0, 0, 0, 1, 0, 0, 0, -1, 0, 0, 0, 1])), some (.d (rowD [-1, 0, 0, 0, 0, 0, 0, 0, 0, 0, 0, 0, 0, 0, 0, 0, 0, 0, 0, 0, 0, 0, 0, 0, 0, 0, 0, 0, 0, 0, 0, 0, 0, 0, 0, 0, 0, 0, 0, 0, 1])), some (.d (.int 40)), some (.own (.lst [.int 1, .int 3, .int 7, .int 9, .int 11, .int 13, .int 17, .int 19, .int 21, .int 23, .int 27, .int 29, .int 31, .int 33, .int 37, .int 39])), a7, a8] :=
  lap_of rr_40 (by kernel_rfl) hrow_40 (by kernel_rfl) (by kernel_rfl)
end
end K19
end FL
set_option Elab.async false
set_option linter.all false
set_option maxRecDepth 100000
set_option maxHeartbeats 0
namespace FL
namespace K19
open PySem PySem.Spec L2
open PyProof.Rows hiding St
section
variable (a0 a1 a3 a4 a5 a6 a7 a8 : Option W)
theorem rr_41 : F_ring_row [.d (.int 41)] = .ok (.d (rowD [1, 1, 1, 1, 1, 1, 1, 1, 1, 1, 1, 1, 1, 1, 1, 1, 1, 1, 1, 1, 1, 1, 1, 1, 1, 1, 1, 1, 1, 1, 1, 1, 1, 1, 1, 1, 1, 1, 1, 1, 1])) [.d .non] := by
  rw [is_ring_row]
  kernel_rfl
theorem lap_41 : lawBody [a0, a1, some (.d (.int 41)), a3, a4, a5, a6, a7, a8] = .ok .nx [a0, a1, some (.d (.int 41)), some (.d (rowD [1, 1, 1, 1, 1, 1, 1, 1, 1, 1, 1, 1, 1, 1, 1, 1, 1, 1, 1, 1, 1, 1, 1, 1, 1, 1, 1, 1, 1, 1, 1, 1, 1, 1, 1, 1, 1, 1, 1, 1, 1])), some (.d (rowD [-1, 0, 0, 0, 0, 0, 0, 0, 0, 0, 0, 0, 0, 0, 0, 0, 0, 0, 0, 0, 0, 0, 0, 0, 0, 0, 0, 0, 0, 0, 0, 0, 0, 0, 0, 0, 0, 0, 0, 0, 0, 1])), some (.d (.int 41)), some (.own (.lst [.int 1, .int 2, .int 3, .int 4, .int 5, .int 6, .int 7, .int 8, .int 9, .int 10, .int 11, .int 12, .int 13, .int 14, .int 15, .int 16, .int 17, .int 18, .int 19, .int 20, .int 21, .int 22, .int 23, .int 24, .int 25, .int 26, .int 27, .int 28, .int 29, .int 30, .int 31, .int 32, .int 33, .int 34, .int 35, .int 36, .int 37, .int 38, .int 39, .int 40])), a7, a8] :=
  lap_of rr_41 (by kernel_rfl) hrow_41 (by kernel_rfl) (by kernel_rfl)
theorem rr_42 : F_ring_row [.d (.int 42)] = .ok (.d (rowD [1, 1, 0, -1, -1, 0, 1, 0, -1, -1, 0, 1, 1])) [.d .non] := by
  rw [is_ring_row]
  kernel_rfl
theorem lap_42 : lawBody [a0, a1, some (.d (.int 42)), a3, a4, a5, a6, a7, a8] = .ok .nx [a0, a1, some (.d (.int 42)), some (.d (rowD [1, 1, 0, -1, -1, 0, 1, 0, -1, -1, 0, 1, 1])), some (.d (rowD [-1, 0, 0, 0, 0, 0, 0, 0, 0, 0, 0, 0, 0, 0, 0, 0, 0, 0, 0, 0, 0, 0, 0, 0, 0, 0, 0, 0, 0, 0, 0, 0, 0, 0, 0, 0, 0, 0, 0, 0, 0, 0, 1])), some (.d (.int 42)), some (.own (.lst [.int 1, .int 5, .int 11, .int 13, .int 17, .int 19, .int 23, .int 25, .int 29, .int 31, .int 37, .int 41])), a7, a8] :=
  lap_of rr_42 (by kernel_rfl) hrow_42 (by kernel_rfl) (by kernel_rfl)
theorem rr_43 : F_ring_row [.d (.int 43)] = .ok (.d (rowD [1, 1, 1, 1, 1, 1, 1, 1, 1, 1, 1, 1, 1, 1, 1, 1, 1, 1, 1, 1, 1, 1, 1, 1, 1, 1, 1, 1, 1, 1, 1, 1, 1, 1, 1, 1, 1, 1, 1, 1, 1, 1, 1])) [.d .non] := by
  rw [is_ring_row]
  kernel_rfl
theorem lap_43 : lawBody [a0, a1, some (.d (.int 43)), a3, a4, a5, a6, a7, a8] = .ok .nx [a0, a1, some (.d (.int 43)), some (.d (rowD [1, 1, 1, 1, 1, 1, 1, 1, 1, 1, 1, 1, 1, 1, 1, 1, 1, 1, 1, 1, 1, 1, 1, 1, 1, 1, 1, 1, 1, 1, 1, 1, 1, 1, 1, 1, 1, 1, 1, 1, 1, 1, 1])), some (.d (rowD [-1, 0, 0, 0, 0, 0, 0, 0, 0, 0, 0, 0, 0, 0, 0, 0, 0, 0, 0, 0, 0, 0, 0, 0, 0, 0, 0, 0, 0, 0, 0, 0, 0, 0, 0, 0, 0, 0, 0, 0, 0, 0, 0, 1])), some (.d (.int 43)), some (.own (.lst [.int 1, .int 2, .int 3, .int 4, .int 5, .int 6, .int 7, .int 8, .int 9, .int 10, .int 11, .int 12, .int 13, .int 14, .int 15, .int 16, .int 17, .int 18, .int 19, .int 20, .int 21, .int 22, .int 23, .int 24, .int 25, .int 26, .int 27, .int 28, .int 29, .int 30, .int 31, .int 32, .int 33, .int 34, .int 35, .int 36, .int 37, .int 38, .int 39, .int 40, .int 41, .int 42])), a7, a8] :=
  lap_of rr_43 (by kernel_rfl) hrow_43 (by kernel_rfl) (by kernel_rfl)
theorem rr_44 : F_ring_row [.d (.int 44)] = .ok (.d (rowD [1, 0, -1, 0, 1, 0, -1, 0, 1, 0, -1, 0, 1, 0, -1, 0, 1, 0, -1, 0, 1])) [.d .non] := by
  rw [is_ring_row]
  kernel_rfl
theorem lap_44 : lawBody [a0, a1, some (.d (.int 44)), a3, a4, a5, a6, a7, a8] = .ok .nx [a0, a1, some (.d (.int 44)), some (.d (rowD [1, 0, -1, 0, 1, 0, -1, 0, 1, 0, -1, 0, 1, 0, -1, 0, 1, 0, -1, 0, 1])), some (.d (rowD [-1, 0, 0, 0, 0, 0, 0, 0, 0, 0, 0, 0, 0, 0, 0, 0, 0, 0, 0, 0, 0, 0, 0, 0, 0, 0, 0, 0, 0, 0, 0, 0, 0, 0, 0, 0, 0, 0, 0, 0, 0, 0, 0, 0, 1])), some (.d (.int 44)), some (.own (.lst [.int 1, .int 3, .int 5, .int 7, .int 9, .int 13, .int 15, .int 17, .int 19, .int 21, .int 23, .int 25, .int 27, .int 29, .int 31, .int 35, .int 37, .int 39, .int 41, .int 43])), a7, a8] :=
  lap_of rr_44 (by kernel_rfl) hrow_44 (by kernel_rfl) (by kernel_rfl)
theorem rr_45 : F_ring_row [.d (.int 45)] = .ok (.d (rowD [1, 0, 0, -1, 0, 0, 0, 0, 0, 1, 0, 0, -1, 0, 0, 1, 0, 0, 0, 0, 0, -1, 0, 0, 1])) [.d .non] := by
  rw [is_ring_row]
  kernel_rfl
theorem lap_45 : lawBody [a0, a1, some (.d (.int 45)), a3, a4, a5, a6, a7, a8] = .ok .nx [a0, a1, some (.d (.int 45)), some (.d (rowD [1, 0, 0, -1, 0, 0, 0, 0, 0, 1, 0, 0, -1, 0, 0, 1, 0, 0, 0, 0, 0, -1, 0, 0, 1])), some (.d (rowD [-1, 0, 0, 0, 0, 0, 0, 0, 0, 0, 0, 0, 0, 0, 0, 0, 0, 0, 0, 0, 0, 0, 0, 0, 0, 0, 0, 0, 0, 0, 0, 0, 0, 0, 0, 0, 0, 0, 0, 0, 0, 0, 0, 0, 0, 1])), some (.d (.int 45)), some (.own (.lst [.int 1, .int 2, .int 4, .int 7, .int 8, .int 11, .int 13, .int 14, .int 16, .int 17, .int 19, .int 22, .int 23, .int 26, .int 28, .int 29, .int 31, .int 32, .int 34, .int 37, .int 38, .int 41, .int 43, .int 44])), a7, a8] :=
  lap_of rr_45 (by kernel_rfl) hrow_45 (by kernel_rfl) (by kernel_rfl)
theorem rr_46 : F_ring_row [.d (.int 46)] = .ok (.d (rowD [1, -1, 1, -1, 1, -1, 1, -1, 1, -1, 1, -1, 1, -1, 1, -1, 1, -1, 1, -1, 1, -1, 1])) [.d .non] := by
  rw [is_ring_row]
  kernel_rfl
theorem lap_46 : lawBody [a0, a1, some (.d (.int 46)), a3, a4, a5, a6, a7, a8] = .ok .nx [a0, a1, some (.d (.int 46)), some (.d (rowD [1, -1, 1, -1, 1, -1, 1, -1, 1, -1, 1, -1, 1, -1, 1, -1, 1, -1, 1, -1, 1, -1, 1])), some (.d (rowD [-1, 0, 0, 0, 0, 0, 0, 0, 0, 0, 0, 0, 0, 0, 0, 0, 0, 0, 0, 0, 0, 0, 0, 0, 0, 0, 0, 0, 0, 0, 0, 0, 0, 0, 0, 0, 0, 0, 0, 0, 0, 0, 0, 0, 0, 0, 1])), some (.d (.int 46)), some (.own (.lst [.int 1, .int 3, .int 5, .int 7, .int 9, .int 11, .int 13, .int 15, .int 17, .int 19, .int 21, .int 25, .int 27, .int 29, .int 31, .int 33, .int 35, .int 37, .int 39, .int 41, .int 43, .int 45])), a7, a8] :=
  lap_of rr_46 (by kernel_rfl) hrow_46 (by kernel_rfl) (by kernel_rfl)
theorem rr_47 : F_ring_row [.d (.int 47)] = .ok (.d (rowD [1, 1, 1, 1, 1, 1, 1, 1, 1, 1, 1, 1, 1, 1, 1, 1, 1, 1, 1, 1, 1, 1, 1, 1, 1, 1, 1, 1, 1, 1, 1, 1, 1, 1, 1, 1, 1, 1, 1, 1, 1, 1, 1, 1, 1, 1, 1])) [.d .non] := by
  rw [is_ring_row]
  kernel_rfl
theorem lap_47 : lawBody [a0, a1, some (.d (.int 47)), a3, a4, a5, a6, a7, a8] = .ok .nx [a0, a1, some (.d (.int 47)), some (.d (rowD [1, 1, 1, 1, 1, 1, 1, 1, 1, 1, 1, 1, 1, 1, 1, 1, 1, 1, 1, 1, 1, 1, 1, 1, 1, 1, 1, 1, 1, 1, 1, 1, 1, 1, 1, 1, 1, 1, 1, 1, 1, 1, 1, 1, 1, 1, 1])), some (.d (rowD [-1, 0, 0, 0, 0, 0, 0, 0, 0, 0, 0, 0, 0, 0, 0, 0, 0, 0, 0, 0, 0, 0, 0, 0, 0, 0, 0, 0, 0, 0, 0, 0, 0, 0, 0, 0, 0, 0, 0, 0, 0, 0, 0, 0, 0, 0, 0, 1])), some (.d (.int 47)), some (.own (.lst [.int 1, .int 2, .int 3, .int 4, .int 5, .int 6, .int 7, .int 8, .int 9, .int 10, .int 11, .int 12, .int 13, .int 14, .int 15, .int 16, .int 17, .int 18, .int 19, .int 20, .int 21, .int 22, .int 23, .int 24, .int 25, .int 26, .int 27, .int 28, .int 29, .int 30, .int 31, .int 32, .int 33, .int 34, .int 35, .int 36, .int 37, .int 38, .int 39, .int 40, .int 41, .int 42, .int 43, .int 44, .int 45, .int 46])), a7, a8] :=
  lap_of rr_47 (by kernel_rfl) hrow_47 (by kernel_rfl) (by kernel_rfl)
end
end K19
end FL
set_option Elab.async false
set_option linter.all false
set_option maxRecDepth 100000
set_option maxHeartbeats 0
namespace FL
namespace K19
open PySem PySem.Spec L2
open PyProof.Rows hiding St
section
variable (a0 a1 a3 a4 a5 a6 a7 a8 : Option W)
theorem rr_48 : F_ring_row [.d (.int 48)] = .ok (.d (rowD [1, 0, 0, 0, 0, 0, 0, 0, -1, 0, 0, 0, 0, 0, 0, 0, 1])) [.d .non] := by
  rw [is_ring_row]
  kernel_rfl
theorem lap_48 : lawBody [a0, a1, some (.d (.int 48)), a3, a4, a5, a6, a7, a8] = .ok .nx [a0, a1, some (.d (.int 48)), some (.d (rowD [1, 0, 0, 0, 0, 0, 0, 0, -1, 0, 0, 0, 0, 0, 0, 0, 1])), some (.d (rowD [-1, 0, 0, 0, 0, 0, 0, 0, 0, 0, 0, 0, 0, 0, 0, 0, 0, 0, 0, 0, 0, 0, 0, 0, 0, 0, 0, 0, 0, 0, 0, 0, 0, 0, 0, 0, 0, 0, 0, 0, 0, 0, 0, 0, 0, 0, 0, 0, 1])), some (.d (.int 48)), some (.own (.lst [.int 1, .int 5, .int 7, .int 11, .int 13, .int 17, .int 19, .int 23, .int 25, .int 29, .int 31, .int 35, .int 37, .int 41, .int 43, .int 47])), a7, a8] :=
  lap_of rr_48 (by kernel_rfl) hrow_48 (by kernel_rfl) (by kernel_rfl)
theorem rr_49 : F_ring_row [.d (.int 49)] = .ok (.d (rowD [1, 0, 0, 0, 0, 0, 0, 1, 0, 0, 0, 0, 0, 0, 1, 0, 0, 0, 0, 0, 0, 1, 0, 0, 0, 0, 0, 0, 1, 0, 0, 0, 0, 0, 0, 1, 0, 0, 0, 0, 0, 0, 1])) [.d .non] := by
  rw [is_ring_row]
  kernel_rfl
theorem lap_49 : lawBody [a0, a1, some (.d (.int 49)), a3, a4, a5, a6, a7, a8] = .ok .nx [a0, a1, some (.d (.int 49)), some (.d (rowD [1, 0, 0, 0, 0, 0, 0, 1, 0, 0, 0, 0, 0, 0, 1, 0, 0, 0, 0, 0, 0, 1, 0, 0, 0, 0, 0, 0, 1, 0, 0, 0, 0, 0, 0, 1, 0, 0, 0, 0, 0, 0, 1])), some (.d (rowD [-1, 0, 0, 0, 0, 0, 0, 0, 0, 0, 0, 0, 0, 0, 0, 0, 0, 0, 0, 0, 0, 0, 0, 0, 0, 0, 0, 0, 0, 0, 0, 0, 0, 0, 0, 0, 0, 0, 0, 0, 0, 0, 0, 0, 0, 0, 0, 0, 0, 1])), some (.d (.int 49)), some (.own (.lst [.int 1, .int 2, .int 3, .int 4, .int 5, .int 6, .int 8, .int 9, .int 10, .int 11, .int 12, .int 13, .int 15, .int 16, .int 17, .int 18, .int 19, .int 20, .int 22, .int 23, .int 24, .int 25, .int 26, .int 27, .int 29, .int 30, .int 31, .int 32, .int 33, .int 34, .int 36, .int 37, .int 38, .int 39, .int 40, .int 41, .int 43, .int 44, .int 45, .int 46, .int 47, .int 48])), a7, a8] :=
  lap_of rr_49 (by kernel_rfl) hrow_49 (by kernel_rfl) (by kernel_rfl)
theorem rr_50 : F_ring_row [.d (.int 50)] = .ok (.d (rowD [1, 0, 0, 0, 0, -1, 0, 0, 0, 0, 1, 0, 0, 0, 0, -1, 0, 0, 0, 0, 1])) [.d .non] := by
  rw [is_ring_row]
  kernel_rfl
theorem lap_50 : lawBody [a0, a1, some (.d (.int 50)), a3, a4, a5, a6, a7, a8] = .ok .nx [a0, a1, some (.d (.int 50)), some (.d (rowD [1, 0, 0, 0, 0, -1, 0, 0, 0, 0, 1, 0, 0, 0, 0, -1, 0, 0, 0, 0, 1])), some (.d (rowD [-1, 0, 0, 0, 0, 0, 0, 0, 0, 0, 0, 0, 0, 0, 0, 0, 0, 0, 0, 0, 0, 0, 0, 0, 0, 0, 0, 0, 0, 0, 0, 0, 0, 0, 0, 0, 0, 0, 0, 0, 0, 0, 0, 0, 0, 0, 0, 0, 0, 0, 1])), some (.d (.int 50)), some (.own (.lst [.int 1, .int 3, .int 7, .int 9, .int 11, .int 13, .int 17, .int 19, .int 21, .int 23, .int 27, .int 29, .int 31, .int 33, .int 37, .int 39, .int 41, .int 43, .int 47, .int 49])), a7, a8] :=
  lap_of rr_50 (by kernel_rfl) hrow_50 (by kernel_rfl) (by kernel_rfl)
theorem rr_51 : F_ring_row [.d (.int 51)] = .ok (.d (rowD [1, -1, 0, 1, -1, 0, 1, -1, 0, 1, -1, 0, 1, -1, 0, 1, -1, 1, 0, -1, 1, 0, -1, 1, 0, -1, 1, 0, -1, 1, 0, -1, 1])) [.d .non] := by
  rw [is_ring_row]
  kernel_rfl
theorem lap_51 : lawBody [a0, a1, some (.d (.int 51)), a3, a4, a5, a6, a7, a8] = .ok .nx [a0, a1, some (.d (.int 51)), some (.d (rowD [1, -1, 0, 1, -1, 0, 1, -1, 0, 1, -1, 0, 1, -1, 0, 1, -1, 1, 0, -1, 1, 0, -1, 1, 0, -1, 1, 0, -1, 1, 0, -1, 1])), some (.d (rowD [-1, 0, 0, 0, 0, 0, 0, 0, 0, 0, 0, 0, 0, 0, 0, 0, 0, 0, 0, 0, 0, 0, 0, 0, 0, 0, 0, 0, 0, 0, 0, 0, 0, 0, 0, 0, 0, 0, 0, 0, 0, 0, 0, 0, 0, 0, 0, 0, 0, 0, 0, 1])), some (.d (.int 51)), some (.own (.lst [.int 1, .int 2, .int 4, .int 5, .int 7, .int 8, .int 10, .int 11, .int 13, .int 14, .int 16, .int 19, .int 20, .int 22, .int 23, .int 25, .int 26, .int 28, .int 29, .int 31, .int 32, .int 35, .int 37, .int 38, .int 40, .int 41, .int 43, .int 44, .int 46, .int 47, .int 49, .int 50])), a7, a8] :=
  lap_of rr_51 (by kernel_rfl) hrow_51 (by kernel_rfl) (by kernel_rfl)
theorem rr_52 : F_ring_row [.d (.int 52)] = .ok (.d (rowD [1, 0, -1, 0, 1, 0, -1, 0, 1, 0, -1, 0, 1, 0, -1, 0, 1, 0, -1, 0, 1, 0, -1, 0, 1])) [.d .non] := by
  rw [is_ring_row]
  kernel_rfl
theorem lap_52 : lawBody [a0, a1, some (.d (.int 52)), a3, a4, a5, a6, a7, a8] = .ok .nx [a0, a1, some (.d (.int 52)), some (.d (rowD [1, 0, -1, 0, 1, 0, -1, 0, 1, 0, -1, 0, 1, 0, -1, 0, 1, 0, -1, 0, 1, 0, -1, 0, 1])), some (.d (rowD [-1, 0, 0, 0, 0, 0, 0, 0, 0, 0, 0, 0, 0, 0, 0, 0, 0, 0, 0, 0, 0, 0, 0, 0, 0, 0, 0, 0, 0, 0, 0, 0, 0, 0, 0, 0, 0, 0, 0, 0, 0, 0, 0, 0, 0, 0, 0, 0, 0, 0, 0, 0, 1])), some (.d (.int 52)), some (.own (.lst [.int 1, .int 3, .int 5, .int 7, .int 9, .int 11, .int 15, .int 17, .int 19, .int 21, .int 23, .int 25, .int 27, .int 29, .int 31, .int 33, .int 35, .int 37, .int 41, .int 43, .int 45, .int 47, .int 49, .int 51])), a7, a8] :=
  lap_of rr_52 (by kernel_rfl) hrow_52 (by kernel_rfl) (by kernel_rfl)
theorem rr_53 : F_ring_row [.d (.int 53)] = .ok (.d (rowD [1, 1, 1, 1, 1, 1, 1, 1, 1, 1, 1, 1, 1, 1, 1, 1, 1, 1, 1, 1, 1, 1, 1, 1, 1, 1, 1, 1, 1, 1, 1, 1, 1, 1, 1, 1, 1, 1, 1, 1, 1, 1, 1, 1, 1, 1, 1, 1, 1, 1, 1, 1, 1])) [.d .non] := by
  rw [is_ring_row]
  kernel_rfl
theorem lap_53 : lawBody [a0, a1, some (.d (.int 53)), a3, a4, a5, a6, a7, a8] = .ok .nx [a0, a1, some (.d (.int 53)), some (.d (rowD [1, 1, 1, 1, 1, 1, 1, 1, 1, 1, 1, 1, 1, 1, 1, 1, 1, 1, 1, 1, 1, 1, 1, 1, 1, 1, 1, 1, 1, 1, 1, 1, 1, 1, 1, 1, 1, 1, 1, 1, 1, 1, 1, 1, 1, 1, 1, 1, 1, 1, 1, 1, 1])), some (.d (rowD [-1, 0, 0, 0, 0, 0, 0, 0, 0, 0, 0, 0, 0, 0, 0, 0, 0, 0, 0, 0, 0, 0, 0, 0, 0, 0, 0, 0, 0, 0, 0, 0, 0, 0, 0, 0, 0, 0, 0, 0, 0, 0, 0, 0, 0, 0, 0, 0, 0, 0, 0, 0, 0, 1])), some (.d (.int 53)), some (.own (.lst [.int 1, .int 2, .int 3, .int 4, .int 5, .int 6, .int 7, .int 8, .int 9, .int 10, .int 11, .int 12, .int 13, .int 14, .int 15, .int 16, .int 17, .int 18, .int 19, .int 20, .int 21, .int 22, .int 23, .int 24, .int 25, .int 26, .int 27, .int 28, .int 29, .int 30, .int 31, .int 32, .int 33, .int 34, .int 35, .int 36, .int 37, .int 38, .int 39, .int 40, .int 41, .int 42, .int 43, .int 44, .int 45, .int 46, .int 47, .int 48, .int 49, .int 50, .int 51, .int 52])), a7, a8] :=
  lap_of rr_53 (by kernel_rfl) hrow_53 (by kernel_rfl) (by kernel_rfl)
end
end K19
end FL
set_option Elab.async false
set_option linter.all false
set_option maxRecDepth 100000
set_option maxHeartbeats 0
namespace FL
namespace K19
open PySem PySem.Spec L2
open PyProof.Rows hiding St
section
variable (a0 a1 a3 a4 a5 a6 a7 a8 : Option W)
theorem rr_54 : F_ring_row [.d (.int 54)] = .ok (.d (rowD [1, 0, 0, 0, 0, 0, 0, 0, 0, -1, 0, 0, 0, 0, 0, 0, 0, 0, 1])) [.d .non] := by
  rw [is_ring_row]
  kernel_rfl
theorem lap_54 : lawBody [a0, a1, some (.d (.int 54)), a3, a4, a5, a6, a7, a8] = .ok .nx [a0, a1, some (.d (.int 54)), some (.d (rowD [1, 0, 0, 0, 0, 0, 0, 0, 0, -1, 0, 0, 0, 0, 0, 0, 0, 0, 1])), some (.d (rowD [-1, 0, 0, 0, 0, 0, 0, 0, 0, 0, 0, 0, 0, 0, 0, 0, 0, 0, 0, 0, 0, 0, 0, 0, 0, 0, 0, 0, 0, 0, 0, 0, 0, 0, 0, 0, 0, 0, 0, 0, 0, 0, 0, 0, 0, 0, 0, 0, 0, 0, 0, 0, 0, 0, 1])), some (.d (.int 54)), some (.own (.lst [.int 1, .int 5, .int 7, .int 11, .int 13, .int 17, .int 19, .int 23, .int 25, .int 29, .int 31, .int 35, .int 37, .int 41, .int 43, .int 47, .int 49, .int 53])), a7, a8] :=
  lap_of rr_54 (by kernel_rfl) hrow_54 (by kernel_rfl) (by kernel_rfl)
theorem rr_55 : F_ring_row [.d (.int 55)] = .ok (.d (rowD [1, -1, 0, 0, 0, 1, -1, 0, 0, 0, 1, 0, -1, 0, 0, 1, 0, -1, 0, 0, 1, 0, 0, -1, 0, 1, 0, 0, -1, 0, 1, 0, 0, 0, -1, 1, 0, 0, 0, -1, 1])) [.d .non] := by
  rw [is_ring_row]
  kernel_rfl
theorem lap_55 : lawBody [a0, a1, some (.d (.int 55)), a3, a4, a5, a6, a7, a8] = .ok .nx [a0, a1, some (.d (.int 55)), some (.d (rowD [1, -1, 0, 0, 0, 1, -1, 0, 0, 0, 1, 0, -1, 0, 0, 1, 0, -1, 0, 0, 1, 0, 0, -1, 0, 1, 0, 0, -1, 0, 1, 0, 0, 0, -1, 1, 0, 0, 0, -1, 1])), some (.d (rowD [-1, 0, 0, 0, 0, 0, 0, 0, 0, 0, 0, 0, 0, 0, 0, 0, 0, 0, 0, 0, 0, 0, 0, 0, 0, 0, 0, 0, 0, 0, 0, 0, 0, 0, 0, 0, 0, 0, 0, 0, 0, 0, 0, 0, 0, 0, 0, 0, 0, 0, 0, 0, 0, 0, 0, 1])), some (.d (.int 55)), some (.own (.lst [.int 1, .int 2, .int 3, .int 4, .int 6, .int 7, .int 8, .int 9, .int 12, .int 13, .int 14, .int 16, .int 17, .int 18, .int 19, .int 21, .int 23, .int 24, .int 26, .int 27, .int 28, .int 29, .int 31, .int 32, .int 34, .int 36, .int 37, .int 38, .int 39, .int 41, .int 42, .int 43, .int 46, .int 47, .int 48, .int 49, .int 51, .int 52, .int 53, .int 54])), a7, a8] :=
  lap_of rr_55 (by kernel_rfl) hrow_55 (by kernel_rfl) (by kernel_rfl)
theorem rr_56 : F_ring_row [.d (.int 56)] = .ok (.d (rowD [1, 0, 0, 0, -1, 0, 0, 0, 1, 0, 0, 0, -1, 0, 0, 0, 1, 0, 0, 0, -1, 0, 0, 0, 1])) [.d .non] := by
  rw [is_ring_row]
  kernel_rfl
theorem lap_56 : lawBody [a0, a1, some (.d (.int 56)), a3, a4, a5, a6, a7, a8] = .ok .nx [a0, a1, some (.d (.int 56)), some (.d (rowD [1, 0, 0, 0, -1, 0, 0, 0, 1, 0, 0, 0, -1, 0, 0, 0, 1, 0, 0, 0, -1, 0, 0, 0, 1])), some (.d (rowD [-1, 0, 0, 0, 0, 0, 0, 0, 0, 0, 0, 0, 0, 0, 0, 0, 0, 0, 0, 0, 0, 0, 0, 0, 0, 0, 0, 0, 0, 0, 0, 0, 0, 0, 0, 0, 0, 0, 0, 0, 0, 0, 0, 0, 0, 0, 0, 0, 0, 0, 0, 0, 0, 0, 0, 0, 1])), some (.d (.int 56)), some (.own (.lst [.int 1, .int 3, .int 5, .int 9, .int 11, .int 13, .int 15, .int 17, .int 19, .int 23, .int 25, .int 27, .int 29, .int 31, .int 33, .int 37, .int 39, .int 41, .int 43, .int 45, .int 47, .int 51, .int 53, .int 55])), a7, a8] :=
  lap_of rr_56 (by kernel_rfl) hrow_56 (by kernel_rfl) (by kernel_rfl)
theorem rr_57 : F_ring_row [.d (.int 57)] = .ok (.d (rowD [1, -1, 0, 1, -1, 0, 1, -1, 0, 1, -1, 0, 1, -1, 0, 1, -1, 0, 1, 0, -1, 1, 0, -1, 1, 0, -1, 1, 0, -1, 1, 0, -1, 1, 0, -1, 1])) [.d .non] := by
  rw [is_ring_row]
  kernel_rfl
theorem lap_57 : lawBody [a0, a1, some (.d (.int 57)), a3, a4, a5, a6, a7, a8] = .ok .nx [a0, a1, some (.d (.int 57)), some (.d (rowD [1, -1, 0, 1, -1, 0, 1, -1, 0, 1, -1, 0, 1, -1, 0, 1, -1, 0, 1, 0, -1, 1, 0, -1, 1, 0, -1, 1, 0, -1, 1, 0, -1, 1, 0, -1, 1])), some (.d (rowD [-1, 0, 0, 0, 0, 0, 0, 0, 0, 0, 0, 0, 0, 0, 0, 0, 0, 0, 0, 0, 0, 0, 0, 0, 0, 0, 0, 0, 0, 0, 0, 0, 0, 0, 0, 0, 0, 0, 0, 0, 0, 0, 0, 0, 0, 0, 0, 0, 0, 0, 0, 0, 0, 0, 0, 0, 0, 1])), some (.d (.int 57)), some (.own (.lst [.int 1, .int 2, .int 4, .int 5, .int 7, .int 8, .int 10, .int 11, .int 13, .int 14, .int 16, .int 17, .int 20, .int 22, .int 23, .int 25, .int 26, .int 28, .int 29, .int 31, .int 32, .int 34, .int 35, .int 37, .int 40, .int 41, .int 43, .int 44, .int 46, .int 47, .int 49, .int 50, .int 52, .int 53, .int 55, .int 56])), a7, a8] :=
  lap_of rr_57 (by kernel_rfl) hrow_57 (by kernel_rfl) (by kernel_rfl)
theorem rr_58 : F_ring_row [.d (.int 58)] = .ok (.d (rowD [1, -1, 1, -1, 1, -1, 1, -1, 1, -1, 1, -1, 1, -1, 1, -1, 1, -1, 1, -1, 1, -1, 1, -1, 1, -1, 1, -1, 1])) [.d .non] := by
  rw [is_ring_row]
  kernel_rfl
theorem lap_58 : lawBody [a0, a1, some (.d (.int 58)), a3, a4, a5, a6, a7, a8] = .ok .nx [a0, a1, some (.d (.int 58)), some (.d (rowD [1, -1, 1, -1, 1, -1, 1, -1, 1, -1, 1, -1, 1, -1, 1, -1, 1, -1, 1, -1, 1, -1, 1, -1, 1, -1, 1, -1, 1])), some (.d (rowD [-1, 0, 0, 0, 0, 0, 0, 0, 0, 0, 0, 0, 0, 0, 0, 0, 0, 0, 0, 0, 0, 0, 0, 0, 0, 0, 0, 0, 0, 0, 0, 0, 0, 0, 0, 0, 0, 0, 0, 0, 0, 0, 0, 0, 0, 0, 0, 0, 0, 0, 0, 0, 0, 0, 0, 0, 0, 0, 1])), some (.d (.int 58)), some (.own (.lst [.int 1, .int 3, .int 5, .int 7, .int 9, .int 11, .int 13, .int 15, .int 17, .int 19, .int 21, .int 23, .int 25, .int 27, .int 31, .int 33, .int 35, .int 37, .int 39, .int 41, .int 43, .int 45, .int 47, .int 49, .int 51, .int 53, .int 55, .int 57])), a7, a8] :=
  lap_of rr_58 (by kernel_rfl) hrow_58 (by kernel_rfl) (by kernel_rfl)
theorem rr_59 : F_ring_row [.d (.int 59)] = .ok (.d (rowD [1, 1, 1, 1, 1, 1, 1, 1, 1, 1, 1, 1, 1, 1, 1, 1, 1, 1, 1, 1, 1, 1, 1, 1, 1, 1, 1, 1, 1, 1, 1, 1, 1, 1, 1, 1, 1, 1, 1, 1, 1, 1, 1, 1, 1, 1, 1, 1, 1, 1, 1, 1, 1, 1, 1, 1, 1, 1, 1])) [.d .non] := by
  rw [is_ring_row]
  kernel_rfl
theorem lap_59 : lawBody [a0, a1, some (.d (.int 59)), a3, a4, a5, a6, a7, a8] = .ok .nx [a0, a1, some (.d (.int 59)), some (.d (rowD [1, 1, 1, 1, 1, 1, 1, 1, 1, 1, 1, 1, 1, 1, 1, 1, 1, 1, 1, 1, 1, 1, 1, 1, 1, 1, 1, 1, 1, 1, 1, 1, 1, 1, 1, 1, 1, 1, 1, 1, 1, 1, 1, 1, 1, 1, 1, 1, 1, 1, 1, 1, 1, 1, 1, 1, 1, 1, 1])), some (.d (rowD [-1, 0, 0, 0, 0, 0, 0, 0, 0, 0, 0, 0, 0, 0, 0, 0, 0, 0, 0, 0, 0, 0, 0, 0, 0, 0, 0, 0, 0, 0, 0, 0, 0, 0, 0, 0, 0, 0, 0, 0, 0, 0, 0, 0, 0, 0, 0, 0, 0, 0, 0, 0, 0, 0, 0, 0, 0, 0, 0, 1])), some (.d (.int 59)), some (.own (.lst [.int 1, .int 2, .int 3, .int 4, .int 5, .int 6, .int 7, .int 8, .int 9, .int 10, .int 11, .int 12, .int 13, .int 14, .int 15, .int 16, .int 17, .int 18, .int 19, .int 20, .int 21, .int 22, .int 23, .int 24, .int 25, .int 26, .int 27, .int 28, .int 29, .int 30, .int 31, .int 32, .int 33, .int 34, .int 35, .int 36, .int 37, .int 38, .int 39, .int 40, .int 41, .int 42, .int 43, .int 44, .int 45, .int 46, .int 47, .int 48, .int 49, .int 50, .int 51, .int 52, .int 53, .int 54, .int 55, .int 56, .int 57, .int 58])), a7, a8] :=
  lap_of rr_59 (by kernel_rfl) hrow_59 (by kernel_rfl) (by kernel_rfl)
theorem rr_60 : F_ring_row [.d (.int 60)] = .ok (.d (rowD [1, 0, 1, 0, 0, 0, -1, 0, -1, 0, -1, 0, 0, 0, 1, 0, 1])) [.d .non] := by
  rw [is_ring_row]
  kernel_rfl
theorem lap_60 : lawBody [a0, a1, some (.d (.int 60)), a3, a4, a5, a6, a7, a8] = .ok .nx [a0, a1, some (.d (.int 60)), some (.d (rowD [1, 0, 1, 0, 0, 0, -1, 0, -1, 0, -1, 0, 0, 0, 1, 0, 1])), some (.d (rowD [-1, 0, 0, 0, 0, 0, 0, 0, 0, 0, 0, 0, 0, 0, 0, 0, 0, 0, 0, 0, 0, 0, 0, 0, 0, 0, 0, 0, 0, 0, 0, 0, 0, 0, 0, 0, 0, 0, 0, 0, 0, 0, 0, 0, 0, 0, 0, 0, 0, 0, 0, 0, 0, 0, 0, 0, 0, 0, 0, 0, 1])), some (.d (.int 60)), some (.own (.lst [.int 1, .int 7, .int 11, .int 13, .int 17, .int 19, .int 23, .int 29, .int 31, .int 37, .int 41, .int 43, .int 47, .int 49, .int 53, .int 59])), a7, a8] :=
  lap_of rr_60 (by kernel_rfl) hrow_60 (by kernel_rfl) (by kernel_rfl)
end
end K19
end FL
set_option Elab.async false
set_option linter.all false
set_option maxRecDepth 100000
set_option maxHeartbeats 0
namespace FL
namespace K19
open PySem PySem.Spec L2
open PyProof.Rows hiding St
def mDue (X : FnSem) : M Fl := (seqM (retM (bcM allW (consA (datA (lcM (iterM (slotM 0)) (tupG 2 (consG (nameG [0] 1) (consG (nameG [0] 2) nilG))) yesM (cmpM .Eq (datA (bcM reprW (consA (datA (callM X (consA (datA (slotM 1)) nilA))) nilA))) (datA (bcM reprW (consA (slotA 2) nilA)))) [1, 2])) nilA))) nextM)
def dEL (X : FnSem) : M W := (cmpM .Eq (datA (bcM reprW (consA (datA (callM X (consA (datA (slotM 1)) nilA))) nilA))) (datA (bcM reprW (consA (slotA 2) nilA))))
def S0 : M Fl := (setM [] 1 (callM F_law_pen (consA (datA (slotM 0)) nilA)))
def itL : M (List FL.D) := (iterM (lstM (consL (constM (.int (1))) (consL (callM F_law_pick (consA (slotA 1) (consA (datA (lstM (consL (constM (.int (30))) (consL (constM (.int (42))) (consL (constM (.int (60))) (consL (constM (.int (45))) (consL (constM (.int (36))) nilL))))))) nilA))) (consL (binM .Add (datA (constM (.int (2)))) (datA (callM F_law_draw (consA (slotA 1) (consA (datA (constM (.int (59)))) nilA))))) (consL (binM .Add (datA (constM (.int (2)))) (datA (callM F_law_draw (consA (slotA 1) (consA (datA (constM (.int (20)))) nilA))))) nilL))))))
def S2 : M Fl := (setM [] 7 (callM F_law_pick (consA (slotA 1) (consA (datA (lstM (consL (constM .non) (consL (constM (.int (0))) (consL (constM (.int (61))) (consL (negM (datA (constM (.int (3))))) (consL (constM (.bl true)) (consL (constM (.str "3")) (consL (tupM (consL (constM (.int (3))) (consL (constM (.int (1))) nilL))) (consL (binM .Pow (datA (constM (.int (10)))) (datA (constM (.int (9))))) nilL)))))))))) nilA))))
def S3 (a : Nat) : M Fl := (retM (callL F_law_are_due (lamA (cmN 23) (c_law a) (lm_law a)) (consA (datA (lstM (consL (tupM (consL (lamM (cl_law a) q_law (capt (c_law a) (lamScp (lx_law 0))) (lamPar (lx_law 0)) (lamBod (lx_law 0)) (lamScp (lx_law 0))) (consL (tupM (consL (constM (.str "number")) (consL (constM (.str "number")) (consL (slotM 7) nilL)))) nilL))) nilL))) nilA)))
theorem law_is (a : Nat) : m_law a = seqM S0 (seqM (forS itL (nameG [] 2) lawBody) (seqM S2 (seqM (S3 a) nextM))) := rfl
theorem lap_ok {n : Int} (h1 : 1 ≤ n) (h2 : n ≤ 60) : ∃ r3 r4 r5 r6, ∀ a0 a1 a3 a4 a5 a6 a7 a8, lawBody [a0, a1, some (.d (.int n)), a3, a4, a5, a6, a7, a8] = .ok .nx [a0, a1, some (.d (.int n)), r3, r4, r5, r6, a7, a8] := by
  have c : n = 1 ∨ n = 2 ∨ n = 3 ∨ n = 4 ∨ n = 5 ∨ n = 6 ∨ n = 7 ∨ n = 8 ∨ n = 9 ∨ n = 10 ∨ n = 11 ∨ n = 12 ∨ n = 13 ∨ n = 14 ∨ n = 15 ∨ n = 16 ∨ n = 17 ∨ n = 18 ∨ n = 19 ∨ n = 20 ∨ n = 21 ∨ n = 22 ∨ n = 23 ∨ n = 24 ∨ n = 25 ∨ n = 26 ∨ n = 27 ∨ n = 28 ∨ n = 29 ∨ n = 30 ∨ n = 31 ∨ n = 32 ∨ n = 33 ∨ n = 34 ∨ n = 35 ∨ n = 36 ∨ n = 37 ∨ n = 38 ∨ n = 39 ∨ n = 40 ∨ n = 41 ∨ n = 42 ∨ n = 43 ∨ n = 44 ∨ n = 45 ∨ n = 46 ∨ n = 47 ∨ n = 48 ∨ n = 49 ∨ n = 50 ∨ n = 51 ∨ n = 52 ∨ n = 53 ∨ n = 54 ∨ n = 55 ∨ n = 56 ∨ n = 57 ∨ n = 58 ∨ n = 59 ∨ n = 60 := by omega
  rcases c with rfl | rfl | rfl | rfl | rfl | rfl | rfl | rfl | rfl | rfl | rfl | rfl | rfl | rfl | rfl | rfl | rfl | rfl | rfl | rfl | rfl | rfl | rfl | rfl | rfl | rfl | rfl | rfl | rfl | rfl | rfl | rfl | rfl | rfl | rfl | rfl | rfl | rfl | rfl | rfl | rfl | rfl | rfl | rfl | rfl | rfl | rfl | rfl | rfl | rfl | rfl | rfl | rfl | rfl | rfl | rfl | rfl | rfl | rfl | rfl
  · exact ⟨_, _, _, _, fun a0 a1 a3 a4 a5 a6 a7 a8 => lap_1 a0 a1 a3 a4 a5 a6 a7 a8⟩
  · exact ⟨_, _, _, _, fun a0 a1 a3 a4 a5 a6 a7 a8 => lap_2 a0 a1 a3 a4 a5 a6 a7 a8⟩
  · exact ⟨_, _, _, _, fun a0 a1 a3 a4 a5 a6 a7 a8 => lap_3 a0 a1 a3 a4 a5 a6 a7 a8⟩
  · exact ⟨_, _, _, _, fun a0 a1 a3 a4 a5 a6 a7 a8 => lap_4 a0 a1 a3 a4 a5 a6 a7 a8⟩
  · exact ⟨_, _, _, _, fun a0 a1 a3 a4 a5 a6 a7 a8 => lap_5 a0 a1 a3 a4 a5 a6 a7 a8⟩
  · exact ⟨_, _, _, _, fun a0 a1 a3 a4 a5 a6 a7 a8 => lap_6 a0 a1 a3 a4 a5 a6 a7 a8⟩
  · exact ⟨_, _, _, _, fun a0 a1 a3 a4 a5 a6 a7 a8 => lap_7 a0 a1 a3 a4 a5 a6 a7 a8⟩
  · exact ⟨_, _, _, _, fun a0 a1 a3 a4 a5 a6 a7 a8 => lap_8 a0 a1 a3 a4 a5 a6 a7 a8⟩
  · exact ⟨_, _, _, _, fun a0 a1 a3 a4 a5 a6 a7 a8 => lap_9 a0 a1 a3 a4 a5 a6 a7 a8⟩
  · exact ⟨_, _, _, _, fun a0 a1 a3 a4 a5 a6 a7 a8 => lap_10 a0 a1 a3 a4 a5 a6 a7 a8⟩
  · exact ⟨_, _, _, _, fun a0 a1 a3 a4 a5 a6 a7 a8 => lap_11 a0 a1 a3 a4 a5 a6 a7 a8⟩
  · exact ⟨_, _, _, _, fun a0 a1 a3 a4 a5 a6 a7 a8 => lap_12 a0 a1 a3 a4 a5 a6 a7 a8⟩
  · exact ⟨_, _, _, _, fun a0 a1 a3 a4 a5 a6 a7 a8 => lap_13 a0 a1 a3 a4 a5 a6 a7 a8⟩
  · exact ⟨_, _, _, _, fun a0 a1 a3 a4 a5 a6 a7 a8 => lap_14 a0 a1 a3 a4 a5 a6 a7 a8⟩
  · exact ⟨_, _, _, _, fun a0 a1 a3 a4 a5 a6 a7 a8 => lap_15 a0 a1 a3 a4 a5 a6 a7 a8⟩
  · exact ⟨_, _, _, _, fun a0 a1 a3 a4 a5 a6 a7 a8 => lap_16 a0 a1 a3 a4 a5 a6 a7 a8⟩
  · exact ⟨_, _, _, _, fun a0 a1 a3 a4 a5 a6 a7 a8 => lap_17 a0 a1 a3 a4 a5 a6 a7 a8⟩
  · exact ⟨_, _, _, _, fun a0 a1 a3 a4 a5 a6 a7 a8 => lap_18 a0 a1 a3 a4 a5 a6 a7 a8⟩
  · exact ⟨_, _, _, _, fun a0 a1 a3 a4 a5 a6 a7 a8 => lap_19 a0 a1 a3 a4 a5 a6 a7 a8⟩
  · exact ⟨_, _, _, _, fun a0 a1 a3 a4 a5 a6 a7 a8 => lap_20 a0 a1 a3 a4 a5 a6 a7 a8⟩
  · exact ⟨_, _, _, _, fun a0 a1 a3 a4 a5 a6 a7 a8 => lap_21 a0 a1 a3 a4 a5 a6 a7 a8⟩
  · exact ⟨_, _, _, _, fun a0 a1 a3 a4 a5 a6 a7 a8 => lap_22 a0 a1 a3 a4 a5 a6 a7 a8⟩
  · exact ⟨_, _, _, _, fun a0 a1 a3 a4 a5 a6 a7 a8 => lap_23 a0 a1 a3 a4 a5 a6 a7 a8⟩
  · exact ⟨_, _, _, _, fun a0 a1 a3 a4 a5 a6 a7 a8 => lap_24 a0 a1 a3 a4 a5 a6 a7 a8⟩
  · exact ⟨_, _, _, _, fun a0 a1 a3 a4 a5 a6 a7 a8 => lap_25 a0 a1 a3 a4 a5 a6 a7 a8⟩
  · exact ⟨_, _, _, _, fun a0 a1 a3 a4 a5 a6 a7 a8 => lap_26 a0 a1 a3 a4 a5 a6 a7 a8⟩
  · exact ⟨_, _, _, _, fun a0 a1 a3 a4 a5 a6 a7 a8 => lap_27 a0 a1 a3 a4 a5 a6 a7 a8⟩
  · exact ⟨_, _, _, _, fun a0 a1 a3 a4 a5 a6 a7 a8 => lap_28 a0 a1 a3 a4 a5 a6 a7 a8⟩
  · exact ⟨_, _, _, _, fun a0 a1 a3 a4 a5 a6 a7 a8 => lap_29 a0 a1 a3 a4 a5 a6 a7 a8⟩
  · exact ⟨_, _, _, _, fun a0 a1 a3 a4 a5 a6 a7 a8 => lap_30 a0 a1 a3 a4 a5 a6 a7 a8⟩
  · exact ⟨_, _, _, _, fun a0 a1 a3 a4 a5 a6 a7 a8 => lap_31 a0 a1 a3 a4 a5 a6 a7 a8⟩
  · exact ⟨_, _, _, _, fun a0 a1 a3 a4 a5 a6 a7 a8 => lap_32 a0 a1 a3 a4 a5 a6 a7 a8⟩
  · exact ⟨_, _, _, _, fun a0 a1 a3 a4 a5 a6 a7 a8 => lap_33 a0 a1 a3 a4 a5 a6 a7 a8⟩
  · exact ⟨_, _, _, _, fun a0 a1 a3 a4 a5 a6 a7 a8 => lap_34 a0 a1 a3 a4 a5 a6 a7 a8⟩
  · exact ⟨_, _, _, _, fun a0 a1 a3 a4 a5 a6 a7 a8 => lap_35 a0 a1 a3 a4 a5 a6 a7 a8⟩
  · exact ⟨_, _, _, _, fun a0 a1 a3 a4 a5 a6 a7 a8 => lap_36 a0 a1 a3 a4 a5 a6 a7 a8⟩
  · exact ⟨_, _, _, _, fun a0 a1 a3 a4 a5 a6 a7 a8 => lap_37 a0 a1 a3 a4 a5 a6 a7 a8⟩
  · exact ⟨_, _, _, _, fun a0 a1 a3 a4 a5 a6 a7 a8 => lap_38 a0 a1 a3 a4 a5 a6 a7 a8⟩
  · exact ⟨_, _, _, _, fun a0 a1 a3 a4 a5 a6 a7 a8 => lap_39 a0 a1 a3 a4 a5 a6 a7 a8⟩
  · exact ⟨_, _, _, _, fun a0 a1 a3 a4 a5 a6 a7 a8 => lap_40 a0 a1 a3 a4 a5 a6 a7 a8⟩
  · exact ⟨_, _, _, _, fun a0 a1 a3 a4 a5 a6 a7 a8 => lap_41 a0 a1 a3 a4 a5 a6 a7 a8⟩
  · exact ⟨_, _, _, _, fun a0 a1 a3 a4 a5 a6 a7 a8 => lap_42 a0 a1 a3 a4 a5 a6 a7 a8⟩
  · exact ⟨_, _, _, _, fun a0 a1 a3 a4 a5 a6 a7 a8 => lap_43 a0 a1 a3 a4 a5 a6 a7 a8⟩
  · exact ⟨_, _, _, _, fun a0 a1 a3 a4 a5 a6 a7 a8 => lap_44 a0 a1 a3 a4 a5 a6 a7 a8⟩
  · exact ⟨_, _, _, _, fun a0 a1 a3 a4 a5 a6 a7 a8 => lap_45 a0 a1 a3 a4 a5 a6 a7 a8⟩
  · exact ⟨_, _, _, _, fun a0 a1 a3 a4 a5 a6 a7 a8 => lap_46 a0 a1 a3 a4 a5 a6 a7 a8⟩
  · exact ⟨_, _, _, _, fun a0 a1 a3 a4 a5 a6 a7 a8 => lap_47 a0 a1 a3 a4 a5 a6 a7 a8⟩
  · exact ⟨_, _, _, _, fun a0 a1 a3 a4 a5 a6 a7 a8 => lap_48 a0 a1 a3 a4 a5 a6 a7 a8⟩
  · exact ⟨_, _, _, _, fun a0 a1 a3 a4 a5 a6 a7 a8 => lap_49 a0 a1 a3 a4 a5 a6 a7 a8⟩
  · exact ⟨_, _, _, _, fun a0 a1 a3 a4 a5 a6 a7 a8 => lap_50 a0 a1 a3 a4 a5 a6 a7 a8⟩
  · exact ⟨_, _, _, _, fun a0 a1 a3 a4 a5 a6 a7 a8 => lap_51 a0 a1 a3 a4 a5 a6 a7 a8⟩
  · exact ⟨_, _, _, _, fun a0 a1 a3 a4 a5 a6 a7 a8 => lap_52 a0 a1 a3 a4 a5 a6 a7 a8⟩
  · exact ⟨_, _, _, _, fun a0 a1 a3 a4 a5 a6 a7 a8 => lap_53 a0 a1 a3 a4 a5 a6 a7 a8⟩
  · exact ⟨_, _, _, _, fun a0 a1 a3 a4 a5 a6 a7 a8 => lap_54 a0 a1 a3 a4 a5 a6 a7 a8⟩
  · exact ⟨_, _, _, _, fun a0 a1 a3 a4 a5 a6 a7 a8 => lap_55 a0 a1 a3 a4 a5 a6 a7 a8⟩
  · exact ⟨_, _, _, _, fun a0 a1 a3 a4 a5 a6 a7 a8 => lap_56 a0 a1 a3 a4 a5 a6 a7 a8⟩
  · exact ⟨_, _, _, _, fun a0 a1 a3 a4 a5 a6 a7 a8 => lap_57 a0 a1 a3 a4 a5 a6 a7 a8⟩
  · exact ⟨_, _, _, _, fun a0 a1 a3 a4 a5 a6 a7 a8 => lap_58 a0 a1 a3 a4 a5 a6 a7 a8⟩
  · exact ⟨_, _, _, _, fun a0 a1 a3 a4 a5 a6 a7 a8 => lap_59 a0 a1 a3 a4 a5 a6 a7 a8⟩
  · exact ⟨_, _, _, _, fun a0 a1 a3 a4 a5 a6 a7 a8 => lap_60 a0 a1 a3 a4 a5 a6 a7 a8⟩
theorem pen_is : F_law_pen = F_pen := by kernel_rfl
theorem draw_is : F_law_draw = F_draw := by kernel_rfl
theorem pick_ok {B : Nat} {P : FL.D} {items : List FL.D} (h : PenOk B P) (hB : B < 2 ^ 40) (h1 : 0 < items.length) (h2 : items.length < 1000) : ∃ (x : FL.D) (P' : FL.D), x ∈ items ∧ PenOk (B + 1) P' ∧ F_law_pick [.own P, .d (.lst items)] = .ok (.d x) [.own P', .d .non] := by
  obtain ⟨r, P', r0, r1, hP, e⟩ := draw_ok (many := (items.length : Int)) h hB (by omega) (by omega)
  obtain ⟨k, hk⟩ : ∃ k : Nat, r = (k : Int) := ⟨r.toNat, by omega⟩
  have hlt : k < items.length := by omega
  have ix : ixW (.lst items) (.int r) = some (.d items[k]) := by
    show (L2.atI items r).map _ = _
    unfold L2.atI
    rw [hk, ixN_nat hlt]
    show (items[k]?).map _ = _
    rw [List.getElem?_eq_getElem hlt]
    rfl
  refine ⟨items[k], P', List.getElem_mem hlt, hP, fn_ret (ρ := [some (.own P'), some (.d (.lst items))]) rfl ?_ rfl⟩
  have c : callM F_law_draw (consA (slotA 0) (consA (datA (bcM lenW (consA (slotA 1) nilA))) nilA)) [some (.own P), some (.d (.lst items))] = .ok (.d (.int r)) [some (.own P'), some (.d (.lst items))] :=
    ev_callO (i := 0) (b := .int (items.length : Int)) (P := P) (P' := P') (ρ := [some (.own P), some (.d (.lst items))]) rfl rfl rfl (by rw [draw_is]; exact e)
  have m : ixM (slotA 1) (datA (callM F_law_draw (consA (slotA 0) (consA (datA (bcM lenW (consA (slotA 1) nilA))) nilA)))) [some (.own P), some (.d (.lst items))] = .ok (.d items[k]) [some (.own P'), some (.d (.lst items))] :=
    ev_ix (x := .val (.lst items)) (y := .val (.int r)) (a := .lst items) rfl (ev_dat (w := .d (.int r)) c) rfl rfl ix
  exact seq_ret (ev_ret m)
theorem ev_consL {m : M W} {r : M (List FL.D)} {ρ ρ1 ρ2 : Rho} {w : W} {ds : List FL.D} (h1 : m ρ = .ok w ρ1) (h2 : r ρ1 = .ok ds ρ2) : consL m r ρ = .ok (w.data :: ds) ρ2 := by
  unfold consL
  rw [h1]
  show (r ρ1).bind _ = _
  rw [h2]
  rfl
theorem lst_ok {ms : M (List FL.D)} {ρ ρ1 : Rho} {ds : List FL.D} (h : ms ρ = .ok ds ρ1) (hz : sizeOk ds.length = true) : lstM ms ρ = .ok (.own (.lst ds)) ρ1 := by
  unfold lstM
  rw [h]
  show (if sizeOk ds.length = true then (Res.ok (W.own (.lst ds)) ρ1 : Res W) else Res.bad) = _
  rw [if_pos hz]
theorem lst_it {ms : M (List FL.D)} {ρ ρ1 : Rho} {ds : List FL.D} (h : ms ρ = .ok ds ρ1) (hz : sizeOk ds.length = true) : iterM (lstM ms) ρ = .ok ds ρ1 := by
  unfold iterM
  rw [lst_ok h hz]
  rfl
theorem due_el {X : FnSem} {t c d : FL.D} {z : Str} (hX : X [.d c] = .ok (.d d) [.d .non]) (hr : reprW [d] = some (.d (.str z))) (hz : PyData.strOk z = true) : dEL X [some (.d t), some (.d c), some (.d d)] = .ok (.d (.bl true)) [some (.d t), some (.d c), some (.d d)] := by
  have e1 : datA (bcM reprW (consA (datA (callM X (consA (datA (slotM 1)) nilA))) nilA)) [some (.d t), some (.d c), some (.d d)] = .ok (.val (.str z)) [some (.d t), some (.d c), some (.d d)] :=
    ev_dat (w := .d (.str z)) (ev_bc1 (x := .val d) (a := d) (ev_dat (w := .d d) (ev_call1 (a := c) rfl hX)) rfl hr)
  have e2 : datA (bcM reprW (consA (slotA 2) nilA)) [some (.d t), some (.d c), some (.d d)] = .ok (.val (.str z)) [some (.d t), some (.d c), some (.d d)] :=
    ev_dat (w := .d (.str z)) (ev_bc1 (x := .val d) (a := d) rfl rfl hr)
  exact ev_cmp e1 e2 rfl rfl (eq_str hz)
theorem due_ok {Λ : FL.D → FR} {cl : List (Str × Addr)} {c : LamC} {d : FL.D} {z : Str} (hX : F_law_fault Λ [.d (.clo cl c)] = .ok (.d d) [.d .non]) (hr : reprW [d] = some (.d (.str z))) (hz : PyData.strOk z = true) :
    F_law_are_due Λ [.d (.lst [.tup [.clo cl c, d]])] = .ok (.d (.bl true)) [.d .non] := by
  have el := due_el (t := .lst [.tup [.clo cl c, d]]) hX hr hz
  refine fn_ret (ρ := [some (.d (.lst [.tup [.clo cl c, d]])), none, none]) rfl ?_ rfl
  show mDue (F_law_fault Λ) [some (.d (.lst [.tup [.clo cl c, d]])), none, none] = _
  have lc : (lcM (iterM (slotM 0)) (tupG 2 (consG (nameG [0] 1) (consG (nameG [0] 2) nilG))) yesM (cmpM .Eq (datA (bcM reprW (consA (datA (callM (F_law_fault Λ) (consA (datA (slotM 1)) nilA))) nilA))) (datA (bcM reprW (consA (slotA 2) nilA)))) [1, 2]) [some (.d (.lst [.tup [.clo cl c, d]])), none, none] = .ok (.own (.lst [.bl true])) [some (.d (.lst [.tup [.clo cl c, d]])), none, none] := by
    show (match dEL (F_law_fault Λ) [some (.d (.lst [.tup [.clo cl c, d]])), some (.d (.clo cl c)), some (.d d)] with
      | Res.ok w ρ3 => if sizeOk (([] : List FL.D).length + 1) = true then lcLoop (tupG 2 (consG (nameG [0] 1) (consG (nameG [0] 2) nilG))) yesM (dEL (F_law_fault Λ)) [1, 2] [] ([] ++ [w.data]) (mergeR [some (.d (.lst [.tup [.clo cl c, d]])), none, none] ρ3 [1, 2]) else (Res.bad : Res W)
      | _ => Res.bad) = _
    rw [el]
    rfl
  exact seq_ret (ev_ret (ev_bc1 (x := .val (.lst [.bl true])) (a := .lst [.bl true]) (ev_dat lc) rfl rfl))
theorem fault_ok {Λ : FL.D → FR} {cl : List (Str × Addr)} {c : LamC} {d : FL.D} {os : List W} (h : Λ (.clo cl c) = .exc "BadNumber" [("number", d), ("what", .str "number")] os) : F_law_fault Λ [.d (.clo cl c)] = .ok (.d (.tup [.str "number", .str "number", d])) [.d .non] := by
  refine fn_ret (ρ := [some (.d (.clo cl c)), none]) rfl ?_ rfl
  have ac : actM Λ 0 [some (.d (.clo cl c)), none] = .exc "BadNumber" [("number", d), ("what", .str "number")] [some (.d (.clo cl c)), none] := by
    show (match Λ (.clo cl c) with
      | FR.ok (.d x) _ => Res.ok (W.d x) [some (.d (.clo cl c)), none]
      | FR.exc c' fs _ => Res.exc c' fs [some (.d (.clo cl c)), none]
      | _ => Res.bad) = _
    rw [h]
  have body : seqM (dropM (actM Λ 0)) (seqM (retM (constM .non)) nextM) [some (.d (.clo cl c)), none] = .exc "BadNumber" [("number", d), ("what", .str "number")] [some (.d (.clo cl c)), none] := by
    unfold seqM dropM
    rw [ac]
    rfl
  show m_law_fault Λ [some (.d (.clo cl c)), none] = _
  unfold m_law_fault
  refine seq_ret ?_
  unfold tryM
  rw [body]
  rfl
theorem capt_is (a : Nat) : capt (c_law a) (lamScp (lx_law 0)) = [7] := by kernel_rfl
def bads : List FL.D := [.non, .int 0, .int 61, .int (-3), .bl true, .str "3", .tup [.int 3, .int 1], .int 1000000000]
def badOk (d : FL.D) : Bool := match F_ring_row [.d d] with
  | .exc c [(f, x), (g, .str y)] [.d .non] => c == ("BadNumber" : Str) && f == ("number" : Str) && g == ("what" : Str) && y == ("number" : Str) && (match reprW [.tup [.str "number", .str "number", x]] with
    | some (.d (.str z)) => PyData.strOk z
    | _ => false)
  | _ => false
theorem bad_0 : F_ring_row [.d (.non)] = .exc "BadNumber" [("number", .non), ("what", .str "number")] [.d .non] := by kernel_rfl
theorem rp_0 : ∃ z, reprW [.tup [.str "number", .str "number", .non]] = some (.d (.str z)) ∧ PyData.strOk z = true := ⟨_, rfl, by kernel_rfl⟩
theorem bad_1 : F_ring_row [.d (.int 0)] = .exc "BadNumber" [("number", .int 0), ("what", .str "number")] [.d .non] := by kernel_rfl
theorem rp_1 : ∃ z, reprW [.tup [.str "number", .str "number", .int 0]] = some (.d (.str z)) ∧ PyData.strOk z = true := ⟨_, rfl, by kernel_rfl⟩
theorem bad_2 : F_ring_row [.d (.int 61)] = .exc "BadNumber" [("number", .int 61), ("what", .str "number")] [.d .non] := by kernel_rfl
theorem rp_2 : ∃ z, reprW [.tup [.str "number", .str "number", .int 61]] = some (.d (.str z)) ∧ PyData.strOk z = true := ⟨_, rfl, by kernel_rfl⟩
theorem bad_3 : F_ring_row [.d (.int (-3))] = .exc "BadNumber" [("number", .int (-3)), ("what", .str "number")] [.d .non] := by kernel_rfl
theorem rp_3 : ∃ z, reprW [.tup [.str "number", .str "number", .int (-3)]] = some (.d (.str z)) ∧ PyData.strOk z = true := ⟨_, rfl, by kernel_rfl⟩
theorem bad_4 : F_ring_row [.d (.bl true)] = .exc "BadNumber" [("number", .bl true), ("what", .str "number")] [.d .non] := by kernel_rfl
theorem rp_4 : ∃ z, reprW [.tup [.str "number", .str "number", .bl true]] = some (.d (.str z)) ∧ PyData.strOk z = true := ⟨_, rfl, by kernel_rfl⟩
theorem bad_5 : F_ring_row [.d (.str "3")] = .exc "BadNumber" [("number", .str "3"), ("what", .str "number")] [.d .non] := by kernel_rfl
theorem rp_5 : ∃ z, reprW [.tup [.str "number", .str "number", .str "3"]] = some (.d (.str z)) ∧ PyData.strOk z = true := ⟨_, rfl, by kernel_rfl⟩
theorem bad_6 : F_ring_row [.d (.tup [.int 3, .int 1])] = .exc "BadNumber" [("number", .tup [.int 3, .int 1]), ("what", .str "number")] [.d .non] := by kernel_rfl
theorem rp_6 : ∃ z, reprW [.tup [.str "number", .str "number", .tup [.int 3, .int 1]]] = some (.d (.str z)) ∧ PyData.strOk z = true := ⟨_, rfl, by kernel_rfl⟩
theorem bad_7 : F_ring_row [.d (.int 1000000000)] = .exc "BadNumber" [("number", .int 1000000000), ("what", .str "number")] [.d .non] := by kernel_rfl
theorem rp_7 : ∃ z, reprW [.tup [.str "number", .str "number", .int 1000000000]] = some (.d (.str z)) ∧ PyData.strOk z = true := ⟨_, rfl, by kernel_rfl⟩
theorem bad_ok {d : FL.D} (h : d ∈ bads) : F_ring_row [.d d] = .exc "BadNumber" [("number", d), ("what", .str "number")] [.d .non] ∧ ∃ z, reprW [.tup [.str "number", .str "number", d]] = some (.d (.str z)) ∧ PyData.strOk z = true := by
  unfold bads at h
  simp only [List.mem_cons, List.not_mem_nil, or_false] at h
  rcases h with rfl | rfl | rfl | rfl | rfl | rfl | rfl | rfl
  · exact ⟨bad_0, rp_0⟩
  · exact ⟨bad_1, rp_1⟩
  · exact ⟨bad_2, rp_2⟩
  · exact ⟨bad_3, rp_3⟩
  · exact ⟨bad_4, rp_4⟩
  · exact ⟨bad_5, rp_5⟩
  · exact ⟨bad_6, rp_6⟩
  · exact ⟨bad_7, rp_7⟩
theorem S3_ok {a : Nat} {s0 s1 s2 s3 s4 s5 s6 s8 : Option W} {d : FL.D} (h : d ∈ bads) : S3 a [s0, s1, s2, s3, s4, s5, s6, some (.d d), s8] = .ok (.ret (.d (.bl true))) [s0, s1, s2, s3, s4, s5, s6, some (.d d), s8] := by
  obtain ⟨hb, z, hr, hz⟩ := bad_ok h
  let ρ : Rho := [s0, s1, s2, s3, s4, s5, s6, some (.d d), s8]
  let cl := cloFrom (cl_law a) (lamScp (lx_law 0)).names []
  let lc : LamC := ⟨lamPar (lx_law 0), lamBod (lx_law 0), lamScp (lx_law 0), q_law⟩
  have ml : ml_law_0 (ρ.map dropW) = .exc "BadNumber" [("number", d), ("what", .str "number")] (ρ.map dropW) := by
    show callM F_ring_row (consA (datA (slotM 7)) nilA) [dropW s0, dropW s1, dropW s2, dropW s3, dropW s4, dropW s5, dropW s6, some (.d d), dropW s8] = _
    show (match F_ring_row [.d d] with
      | FR.ok w outs => Res.ok w (setOuts [.val d] outs [dropW s0, dropW s1, dropW s2, dropW s3, dropW s4, dropW s5, dropW s6, some (.d d), dropW s8])
      | FR.exc c fs outs => Res.exc c fs (setOuts [.val d] outs [dropW s0, dropW s1, dropW s2, dropW s3, dropW s4, dropW s5, dropW s6, some (.d d), dropW s8])
      | FR.bad => Res.bad) = _
    rw [hb]
    rfl
  have hΛ : lamA (cmN 23) (c_law a) (lm_law a) ρ (.clo cl lc) = .exc "BadNumber" [("number", d), ("what", .str "number")] [] := by
    rw [la_law_0 a ρ, ml]
    rfl
  have due := due_ok (fault_ok hΛ) hr hz
  have lam : lamM (cl_law a) q_law (capt (c_law a) (lamScp (lx_law 0))) (lamPar (lx_law 0)) (lamBod (lx_law 0)) (lamScp (lx_law 0)) ρ = .ok (.d (.clo cl lc)) ρ := by
    rw [capt_is]
    rfl
  have arg : tupM (consL (lamM (cl_law a) q_law (capt (c_law a) (lamScp (lx_law 0))) (lamPar (lx_law 0)) (lamBod (lx_law 0)) (lamScp (lx_law 0))) (consL (tupM (consL (constM (.str "number")) (consL (constM (.str "number")) (consL (slotM 7) nilL)))) nilL)) ρ = .ok (.d (.tup [.clo cl lc, .tup [.str "number", .str "number", d]])) ρ :=
    ev_tup2 (w1 := .d (.clo cl lc)) (w2 := .d (.tup [.str "number", .str "number", d])) lam rfl
  have args : consA (datA (lstM (consL (tupM (consL (lamM (cl_law a) q_law (capt (c_law a) (lamScp (lx_law 0))) (lamPar (lx_law 0)) (lamBod (lx_law 0)) (lamScp (lx_law 0))) (consL (tupM (consL (constM (.str "number")) (consL (constM (.str "number")) (consL (slotM 7) nilL)))) nilL))) nilL))) nilA ρ = .ok [.val (.lst [.tup [.clo cl lc, .tup [.str "number", .str "number", d]]])] ρ := by
    unfold consA datA
    rw [lst_ok (ev_consL (r := nilL) (w := .d (.tup [.clo cl lc, .tup [.str "number", .str "number", d]])) (ds := []) (ρ2 := ρ) arg rfl) rfl]
    rfl
  have call : callL F_law_are_due (lamA (cmN 23) (c_law a) (lm_law a)) (consA (datA (lstM (consL (tupM (consL (lamM (cl_law a) q_law (capt (c_law a) (lamScp (lx_law 0))) (lamPar (lx_law 0)) (lamBod (lx_law 0)) (lamScp (lx_law 0))) (consL (tupM (consL (constM (.str "number")) (consL (constM (.str "number")) (consL (slotM 7) nilL)))) nilL))) nilL))) nilA) ρ = .ok (.d (.bl true)) ρ := by
    unfold callL
    rw [args]
    show (match F_law_are_due (lamA (cmN 23) (c_law a) (lm_law a) ρ) [.d (.lst [.tup [.clo cl lc, .tup [.str "number", .str "number", d]]])] with
      | FR.ok w outs => Res.ok w (setOuts [.val (.lst [.tup [.clo cl lc, .tup [.str "number", .str "number", d]]])] outs ρ)
      | FR.exc c fs outs => Res.exc c fs (setOuts [.val (.lst [.tup [.clo cl lc, .tup [.str "number", .str "number", d]]])] outs ρ)
      | FR.bad => Res.bad) = _
    rw [due]
    rfl
  exact ev_ret call
theorem truth (a : Nat) (ns : List Int) (hl : ns.length ≤ 63) (_ : ∀ z ∈ ns, PySem.Builtin.Int.intBits z ≤ 1048576) : ∃ o, F_law a [.d (.scr ns)] = .ok (.d (.bl true)) o := by
  obtain ⟨P, hP, e0⟩ := pen_ok ns hl
  obtain ⟨x, P1, hx, hP1, e1⟩ := pick_ok (items := [.int 30, .int 42, .int 60, .int 45, .int 36]) hP (by omega) (by decide) (by decide)
  obtain ⟨y, P2, y0, y1, hP2, e2⟩ := draw_ok (many := 59) hP1 (by omega) (by omega) (by omega)
  obtain ⟨w, P3, w0, w1, hP3, e3⟩ := draw_ok (many := 20) hP2 (by omega) (by omega) (by omega)
  obtain ⟨d, P4, hd, hP4, e4⟩ := pick_ok (items := bads) hP3 (by omega) (by decide) (by decide)
  obtain ⟨n, hn, n0, n1⟩ : ∃ n : Int, x = .int n ∧ 1 ≤ n ∧ n ≤ 60 := by
    simp only [List.mem_cons, List.not_mem_nil, or_false] at hx
    rcases hx with rfl | rfl | rfl | rfl | rfl
    · exact ⟨30, rfl, by decide, by decide⟩
    · exact ⟨42, rfl, by decide, by decide⟩
    · exact ⟨60, rfl, by decide, by decide⟩
    · exact ⟨45, rfl, by decide, by decide⟩
    · exact ⟨36, rfl, by decide, by decide⟩
  subst hn
  obtain ⟨a3, a4, a5, a6, l1⟩ := lap_ok (n := 1) (by decide) (by decide)
  obtain ⟨b3, b4, b5, b6, l2⟩ := lap_ok (n := n) n0 n1
  obtain ⟨c3, c4, c5, c6, l3⟩ := lap_ok (n := 2 + y) (by omega) (by omega)
  obtain ⟨d3, d4, d5, d6, l4⟩ := lap_ok (n := 2 + w) (by omega) (by omega)
  let s : Option W := some (.d (.scr ns))
  refine ⟨[.d .non], fn_ret (ρ := [s, some (.own P4), some (.d (.int (2 + w))), d3, d4, d5, d6, some (.d d), none]) rfl ?_ rfl⟩
  show m_law a [s, none, none, none, none, none, none, none, none] = _
  have hs : S0 [s, none, none, none, none, none, none, none, none] = .ok .nx [s, some (.own P), none, none, none, none, none, none, none] :=
    ev_set (ρ1 := [s, none, none, none, none, none, none, none, none]) (ev_call1 (a := .scr ns) rfl (by rw [pen_is]; exact e0)) rfl
  have it : itL [s, some (.own P), none, none, none, none, none, none, none] = .ok [.int 1, .int n, .int (2 + y), .int (2 + w)] [s, some (.own P3), none, none, none, none, none, none, none] := by
    refine lst_it ?_ rfl
    refine ev_consL (w := .d (.int 1)) (ρ1 := [s, some (.own P), none, none, none, none, none, none, none]) rfl ?_
    refine ev_consL (w := .d (.int n)) (ρ1 := [s, some (.own P1), none, none, none, none, none, none, none]) ?_ ?_
    · exact ev_callO (i := 1) (b := .lst [.int 30, .int 42, .int 60, .int 45, .int 36]) (P := P) (P' := P1) (ρ := [s, some (.own P), none, none, none, none, none, none, none]) rfl rfl rfl e1
    refine ev_consL (w := .d (.int (2 + y))) (ρ1 := [s, some (.own P2), none, none, none, none, none, none, none]) ?_ ?_
    · refine ev_bin (a := .int 2) (b := .int y) rfl (ev_dat (w := .d (.int y)) (ev_callO (i := 1) (b := .int 59) (P := P1) (P' := P2) (ρ := [s, some (.own P1), none, none, none, none, none, none, none]) rfl rfl rfl (by rw [draw_is]; exact e2))) rfl rfl (badd _ _)
    refine ev_consL (w := .d (.int (2 + w))) (ds := []) (ρ1 := [s, some (.own P3), none, none, none, none, none, none, none]) ?_ rfl
    exact ev_bin (a := .int 2) (b := .int w) rfl (ev_dat (w := .d (.int w)) (ev_callO (i := 1) (b := .int 20) (P := P2) (P' := P3) (ρ := [s, some (.own P2), none, none, none, none, none, none, none]) rfl rfl rfl (by rw [draw_is]; exact e3))) rfl rfl (badd _ _)
  have hf : forS itL (nameG [] 2) lawBody [s, some (.own P), none, none, none, none, none, none, none] = .ok .nx [s, some (.own P3), some (.d (.int (2 + w))), d3, d4, d5, d6, none, none] := by
    refine ev_for it ?_
    rw [forM_nx (ρ1 := [s, some (.own P3), some (.d (.int 1)), none, none, none, none, none, none]) rfl (l1 _ _ _ _ _ _ _ _), forM_nx (ρ1 := [s, some (.own P3), some (.d (.int n)), a3, a4, a5, a6, none, none]) rfl (l2 _ _ _ _ _ _ _ _), forM_nx (ρ1 := [s, some (.own P3), some (.d (.int (2 + y))), b3, b4, b5, b6, none, none]) rfl (l3 _ _ _ _ _ _ _ _), forM_nx (ρ1 := [s, some (.own P3), some (.d (.int (2 + w))), c3, c4, c5, c6, none, none]) rfl (l4 _ _ _ _ _ _ _ _)]
    rfl
  have h2 : S2 [s, some (.own P3), some (.d (.int (2 + w))), d3, d4, d5, d6, none, none] = .ok .nx [s, some (.own P4), some (.d (.int (2 + w))), d3, d4, d5, d6, some (.d d), none] :=
    ev_set (ρ1 := [s, some (.own P4), some (.d (.int (2 + w))), d3, d4, d5, d6, none, none]) (w := .d d) (ev_callO (i := 1) (b := .lst bads) (P := P3) (P' := P4) (ρ := [s, some (.own P3), some (.d (.int (2 + w))), d3, d4, d5, d6, none, none]) rfl rfl rfl e4) rfl
  rw [law_is, seq_nx hs, seq_nx hf, seq_nx h2]
  exact seq_ret (S3_ok hd)
end K19
end FL
set_option Elab.async false
set_option linter.all false
set_option maxRecDepth 100000
set_option maxHeartbeats 0
open PySem PySem.W PyProof.Rows
set_option maxRecDepth 100000 in
set_option maxHeartbeats 0 in
theorem PySem.Challenge.cw_ownhalves_k19_ring_rows_holds : PySem.Challenge.rw_ownhalves_k19_ring_rows.Holds := by
  w_on; o_law; k_head; (case hw => w_witness2)
  k_fill
  refine FL.walk_endT (l := PySem.Challenge.rw_ownhalves_k19_ring_rows) (n := 63) (k := 43) (x := "script") (F := FL.K19.F_law) rfl (by decide) rfl ⟨rfl, by decide, by decide⟩ (by kernel_rfl) (fun w h Y => by first | exact PySem.W.kIn_of Y | exact PySem.W.km_in_of Y) ?F FL.K19.truth
  case F =>
    intro w mg fa h KX G hmg
    refine' FL.K19.all_mk KX G hmg ?u_a0 ?u_a1 ?u_a2 ?u_a3 ?u_a4 ?u_a5 ?u_a6 ?u_a7 ?u_a8 ?u_a9 ?u_a10 ?u_a11 ?u_a12 ?u_a13 ?u_a14 ?u_a15 ?u_a16 ?u_a17 ?u_a18 ?u_a19 ?u_a20 ?u_a21 ?u_a22 ?u_a23 ?u_a24 ?u_a25 ?u_a26 ?u_a27 ?u_a28 ?u_a29 ?u_a30 ?u_a31 ?u_a32 ?u_a33 ?u_a34 ?u_a35 ?u_a36 ?u_a37 ?u_a38 ?u_a39 ?u_a40 ?u_g0 ?u_h0 ?u_g1 ?u_h1 ?u_g2 ?u_z0 ?u_z1 ?u_z2 ?u_z3 ?u_z4 ?u_z5 ?u_z6 ?u_z7 ?u_z8 ?u_z9 ?u_z10 ?u_z11 ?u_z12 ?u_w0 ?u_l0 ?u_c0 ?u_k0 ?u_l1 ?u_c1 ?u_k1 ?u_l2 ?u_c2 ?u_k2 ?u_l3 ?u_c3 ?u_k3 ?u_l4 ?u_c4 ?u_k4 ?u_l5 ?u_c5 ?u_k5 ?u_l6 ?u_c6 ?u_k6 ?u_l7 ?u_c7 ?u_k7 ?u_l8 ?u_c8 ?u_k8 ?u_l9 ?u_c9 ?u_k9 ?u_l10 ?u_c10 ?u_k10 ?u_l11 ?u_c11 ?u_k11 ?u_l12 ?u_c12 ?u_k12 ?u_l13 ?u_c13 ?u_k13 ?u_l14 ?u_c14 ?u_k14 ?u_l15 ?u_c15 ?u_k15 ?u_l16 ?u_c16 ?u_k16 ?u_l17 ?u_c17 ?u_k17 ?u_l18 ?u_c18 ?u_k18 ?u_l19 ?u_c19 ?u_k19 ?u_l20 ?u_c20 ?u_k20 ?u_l21 ?u_c21 ?u_k21 ?u_l22 ?u_c22 ?u_k22 ?u_l23 ?u_c23 ?u_k23 ?u_l24 ?u_c24 ?u_k24 ?u_l25 ?u_c25 ?u_k25 ?u_l26 ?u_c26 ?u_k26 ?u_l27 ?u_c27 ?u_k27 ?u_l28 ?u_c28 ?u_k28 ?u_l29 ?u_c29 ?u_k29 ?u_l30 ?u_c30 ?u_k30 ?u_l31 ?u_c31 ?u_k31 ?u_l32 ?u_c32 ?u_k32 ?u_l33 ?u_c33 ?u_k33 ?u_l34 ?u_c34 ?u_k34 ?u_l35 ?u_c35 ?u_k35 ?u_l36 ?u_c36 ?u_k36 ?u_l37 ?u_c37 ?u_k37 ?u_l38 ?u_c38 ?u_k38 ?u_l39 ?u_c39 ?u_k39 ?u_l40 ?u_c40 ?u_k40 ?u_qa ?u_qb ?u_qc ?u_aB ?u_oB ?u_rB ?u_fB ?u_aC0 ?u_xC0 ?u_yC0 ?u_sC0 ?u_eC0 ?u_tC0 ?u_kC0 ?u_iC0 ?u_uC0 ?u_gC0 ?u_hC0 ?u_dC0 ?u_nC0_0 ?u_nC0_1 ?u_lC0 ?u_cC0 ?u_jC0 ?u_aC1 ?u_xC1 ?u_yC1 ?u_sC1 ?u_eC1 ?u_tC1 ?u_kC1 ?u_iC1 ?u_uC1 ?u_gC1 ?u_hC1 ?u_dC1 ?u_nC1_0 ?u_nC1_1 ?u_lC1 ?u_cC1 ?u_jC1 ?u_aC2 ?u_xC2 ?u_yC2 ?u_sC2 ?u_eC2 ?u_tC2 ?u_kC2 ?u_iC2 ?u_uC2 ?u_gC2 ?u_hC2 ?u_dC2 ?u_nC2_0 ?u_lC2 ?u_cC2 ?u_jC2 ?u_aC3 ?u_xC3 ?u_yC3 ?u_sC3 ?u_eC3 ?u_tC3 ?u_kC3 ?u_iC3 ?u_uC3 ?u_gC3 ?u_hC3 ?u_dC3 ?u_nC3_0 ?u_lC3 ?u_cC3 ?u_jC3 ?u_aC4 ?u_xC4 ?u_yC4 ?u_sC4 ?u_eC4 ?u_tC4 ?u_kC4 ?u_iC4 ?u_uC4 ?u_gC4 ?u_hC4 ?u_dC4 ?u_nC4_0 ?u_nC4_1 ?u_nC4_2 ?u_lC4 ?u_cC4 ?u_jC4 ?u_p0_0 ?u_p0_1 ?u_p0_2 ?u_p0_3 ?u_p0_4 ?u_p1_0 ?u_p1_1 ?u_p1_2 ?u_p1_3 ?u_p1_4 ?u_p2_0 ?u_p2_1 ?u_p2_2 ?u_p2_3 ?u_p2_4 ?u_p3_0 ?u_p3_1 ?u_p3_2 ?u_p3_3 ?u_p3_4 ?u_p4_0 ?u_p4_1 ?u_p4_2 ?u_p4_3 ?u_p4_4
    (case u_a0 => k_is)
    (case u_a1 => k_is)
    (case u_a2 => k_is)
    (case u_a3 => k_is)
    (case u_a4 => k_is)
    (case u_a5 => k_is)
    (case u_a6 => k_is)
    (case u_a7 => k_is)
    (case u_a8 => k_is)
    (case u_a9 => k_is)
    (case u_a10 => k_is)
    (case u_a11 => k_is)
    (case u_a12 => k_is)
    (case u_a13 => k_is)
    (case u_a14 => k_is)
    (case u_a15 => k_is)
    (case u_a16 => k_is)
    (case u_a17 => k_is)
    (case u_a18 => k_is)
    (case u_a19 => k_is)
    (case u_a20 => k_is)
    (case u_a21 => k_is)
    (case u_a22 => k_is)
    (case u_a23 => k_is)
    (case u_a24 => k_is)
    (case u_a25 => k_is)
    (case u_a26 => k_is)
    (case u_a27 => k_is)
    (case u_a28 => k_is)
    (case u_a29 => k_is)
    (case u_a30 => k_is)
    (case u_a31 => k_is)
    (case u_a32 => k_is)
    (case u_a33 => k_is)
    (case u_a34 => k_is)
    (case u_a35 => k_is)
    (case u_a36 => k_is)
    (case u_a37 => k_is)
    (case u_a38 => k_is)
    (case u_a39 => k_is)
    (case u_a40 => k_is)
    (case u_g0 => k_is)
    (case u_h0 => k_is)
    (case u_g1 => k_is)
    (case u_h1 => k_is)
    (case u_g2 => k_is)
    (case u_z0 => k_is)
    (case u_z1 => k_is)
    (case u_z2 => k_is)
    (case u_z3 => k_is)
    (case u_z4 => k_is)
    (case u_z5 => k_is)
    (case u_z6 => k_is)
    (case u_z7 => k_is)
    (case u_z8 => k_is)
    (case u_z9 => k_is)
    (case u_z10 => k_is)
    (case u_z11 => k_is)
    (case u_z12 => k_is)
    (case u_w0 => k_is)
    (case u_l0 => k_is)
    (case u_c0 => k_is)
    (case u_k0 => k_is)
    (case u_l1 => k_is)
    (case u_c1 => k_is)
    (case u_k1 => k_is)
    (case u_l2 => k_is)
    (case u_c2 => k_is)
    (case u_k2 => k_is)
    (case u_l3 => k_is)
    (case u_c3 => k_is)
    (case u_k3 => k_is)
    (case u_l4 => k_is)
    (case u_c4 => k_is)
    (case u_k4 => k_is)
    (case u_l5 => k_is)
    (case u_c5 => k_is)
    (case u_k5 => k_is)
    (case u_l6 => k_is)
    (case u_c6 => k_is)
    (case u_k6 => k_is)
    (case u_l7 => k_is)
    (case u_c7 => k_is)
    (case u_k7 => k_is)
    (case u_l8 => k_is)
    (case u_c8 => k_is)
    (case u_k8 => k_is)
    (case u_l9 => k_is)
    (case u_c9 => k_is)
    (case u_k9 => k_is)
    (case u_l10 => k_is)
    (case u_c10 => k_is)
    (case u_k10 => k_is)
    (case u_l11 => k_is)
    (case u_c11 => k_is)
    (case u_k11 => k_is)
    (case u_l12 => k_is)
    (case u_c12 => k_is)
    (case u_k12 => k_is)
    (case u_l13 => k_is)
    (case u_c13 => k_is)
    (case u_k13 => k_is)
    (case u_l14 => k_is)
    (case u_c14 => k_is)
    (case u_k14 => k_is)
    (case u_l15 => k_is)
    (case u_c15 => k_is)
    (case u_k15 => k_is)
    (case u_l16 => k_is)
    (case u_c16 => k_is)
    (case u_k16 => k_is)
    (case u_l17 => k_is)
    (case u_c17 => k_is)
    (case u_k17 => k_is)
    (case u_l18 => k_is)
    (case u_c18 => k_is)
    (case u_k18 => k_is)
    (case u_l19 => k_is)
    (case u_c19 => k_is)
    (case u_k19 => k_is)
    (case u_l20 => k_is)
    (case u_c20 => k_is)
    (case u_k20 => k_is)
    (case u_l21 => k_is)
    (case u_c21 => k_is)
    (case u_k21 => k_is)
    (case u_l22 => k_is)
    (case u_c22 => k_is)
    (case u_k22 => k_is)
    (case u_l23 => k_is)
    (case u_c23 => k_is)
    (case u_k23 => k_is)
    (case u_l24 => k_is)
    (case u_c24 => k_is)
    (case u_k24 => k_is)
    (case u_l25 => k_is)
    (case u_c25 => k_is)
    (case u_k25 => k_is)
    (case u_l26 => k_is)
    (case u_c26 => k_is)
    (case u_k26 => k_is)
    (case u_l27 => k_is)
    (case u_c27 => k_is)
    (case u_k27 => k_is)
    (case u_l28 => k_is)
    (case u_c28 => k_is)
    (case u_k28 => k_is)
    (case u_l29 => k_is)
    (case u_c29 => k_is)
    (case u_k29 => k_is)
    (case u_l30 => k_is)
    (case u_c30 => k_is)
    (case u_k30 => k_is)
    (case u_l31 => k_is)
    (case u_c31 => k_is)
    (case u_k31 => k_is)
    (case u_l32 => k_is)
    (case u_c32 => k_is)
    (case u_k32 => k_is)
    (case u_l33 => k_is)
    (case u_c33 => k_is)
    (case u_k33 => k_is)
    (case u_l34 => k_is)
    (case u_c34 => k_is)
    (case u_k34 => k_is)
    (case u_l35 => k_is)
    (case u_c35 => k_is)
    (case u_k35 => k_is)
    (case u_l36 => k_is)
    (case u_c36 => k_is)
    (case u_k36 => k_is)
    (case u_l37 => k_is)
    (case u_c37 => k_is)
    (case u_k37 => k_is)
    (case u_l38 => k_is)
    (case u_c38 => k_is)
    (case u_k38 => k_is)
    (case u_l39 => k_is)
    (case u_c39 => k_is)
    (case u_k39 => k_is)
    (case u_l40 => k_is)
    (case u_c40 => k_is)
    (case u_k40 => k_is)
    (case u_qa => k_is)
    (case u_qb => rfl)
    (case u_qc => exact FL.look_none (by kernel_rfl))
    (case u_aB => k_is)
    (case u_oB => k_is)
    (case u_rB => k_is)
    (case u_fB => k_is)
    (case u_aC0 => k_is)
    (case u_xC0 => k_is)
    (case u_yC0 => rfl)
    (case u_sC0 => k_is)
    (case u_eC0 => k_is)
    (case u_tC0 => k_is)
    (case u_kC0 => k_is)
    (case u_iC0 => k_is)
    (case u_uC0 => k_is)
    (case u_gC0 => k_is)
    (case u_hC0 => k_is)
    (case u_dC0 => k_is)
    (case u_nC0_0 => k_is)
    (case u_nC0_1 => k_is)
    (case u_lC0 => k_is)
    (case u_cC0 => k_is)
    (case u_jC0 => k_is)
    (case u_aC1 => k_is)
    (case u_xC1 => k_is)
    (case u_yC1 => rfl)
    (case u_sC1 => k_is)
    (case u_eC1 => k_is)
    (case u_tC1 => k_is)
    (case u_kC1 => k_is)
    (case u_iC1 => k_is)
    (case u_uC1 => k_is)
    (case u_gC1 => k_is)
    (case u_hC1 => k_is)
    (case u_dC1 => k_is)
    (case u_nC1_0 => k_is)
    (case u_nC1_1 => k_is)
    (case u_lC1 => k_is)
    (case u_cC1 => k_is)
    (case u_jC1 => k_is)
    (case u_aC2 => k_is)
    (case u_xC2 => k_is)
    (case u_yC2 => rfl)
    (case u_sC2 => k_is)
    (case u_eC2 => k_is)
    (case u_tC2 => k_is)
    (case u_kC2 => k_is)
    (case u_iC2 => k_is)
    (case u_uC2 => k_is)
    (case u_gC2 => k_is)
    (case u_hC2 => k_is)
    (case u_dC2 => k_is)
    (case u_nC2_0 => k_is)
    (case u_lC2 => k_is)
    (case u_cC2 => k_is)
    (case u_jC2 => k_is)
    (case u_aC3 => k_is)
    (case u_xC3 => k_is)
    (case u_yC3 => rfl)
    (case u_sC3 => k_is)
    (case u_eC3 => k_is)
    (case u_tC3 => k_is)
    (case u_kC3 => k_is)
    (case u_iC3 => k_is)
    (case u_uC3 => k_is)
    (case u_gC3 => k_is)
    (case u_hC3 => k_is)
    (case u_dC3 => k_is)
    (case u_nC3_0 => k_is)
    (case u_lC3 => k_is)
    (case u_cC3 => k_is)
    (case u_jC3 => k_is)
    (case u_aC4 => k_is)
    (case u_xC4 => k_is)
    (case u_yC4 => rfl)
    (case u_sC4 => k_is)
    (case u_eC4 => k_is)
    (case u_tC4 => k_is)
    (case u_kC4 => k_is)
    (case u_iC4 => k_is)
    (case u_uC4 => k_is)
    (case u_gC4 => k_is)
    (case u_hC4 => k_is)
    (case u_dC4 => k_is)
    (case u_nC4_0 => k_is)
    (case u_nC4_1 => k_is)
    (case u_nC4_2 => k_is)
    (case u_lC4 => k_is)
    (case u_cC4 => k_is)
    (case u_jC4 => k_is)
    (case u_p0_0 => k_is)
    (case u_p0_1 => k_is)
    (case u_p0_2 => k_is)
    (case u_p0_3 => k_is)
    (case u_p0_4 => k_is)
    (case u_p1_0 => k_is)
    (case u_p1_1 => k_is)
    (case u_p1_2 => k_is)
    (case u_p1_3 => k_is)
    (case u_p1_4 => k_is)
    (case u_p2_0 => k_is)
    (case u_p2_1 => k_is)
    (case u_p2_2 => k_is)
    (case u_p2_3 => k_is)
    (case u_p2_4 => k_is)
    (case u_p3_0 => k_is)
    (case u_p3_1 => k_is)
    (case u_p3_2 => k_is)
    (case u_p3_3 => k_is)
    (case u_p3_4 => k_is)
    (case u_p4_0 => k_is)
    (case u_p4_1 => k_is)
    (case u_p4_2 => k_is)
    (case u_p4_3 => k_is)
    (case u_p4_4 => k_is)
