import PyProof.Rows.All
import PySem.Challenge.RW_ownhalves_k21_roots_of_one_doubled
import Wide.All
import OpenK.AllK
import Wide.FinOn
import HandS.ForMost
import HandS.ForExc
import HandS.TryMany
import HandS.ExcInit
import HandS.Gcd
import HandS.Wide
import HandS.WideBits
import HandS.IsInst
import HandS.Lambda
import HandS.Deep
import HandS.Flow
import HandS.TupAny
import HandS.TupMul
import HandS.TupLe
import HandS.Iter
import HandS.Zip
import KE.GoesEnum
import HandS.Walk
import HandS.RaiseMore
import HandS.Words
import HandS.Ends
import HandS.EndBits
import HandS.Small
set_option Elab.async false
set_option linter.all false
set_option maxRecDepth 100000
set_option maxHeartbeats 2000000
namespace FL
open PySem PySem.Spec L2
open PyProof.Rows hiding St
/-- plain data, without a heap -/
inductive D where
  | non | bl (b : Bool) | int (i : Int) | str (x : Str) | ty (n : String)
  | tup (xs : List D) | lst (xs : List D) | dct (kvs : List (Key × D))
  | obj (c : Str) (fs : List (Str × D))
  | fn (x : Str)
  | scr (ns : List Int)
  deriving Inhabited
mutual
/-- how a datum stands in the kept part G of the heap -/
def RV (K : PySem.W.Frag) (mg : Str → Option Value) (G : Hp) : D → V → Prop
  | .non, v => v = .non
  | .bl b, v => v = .bl b
  | .int i, v => v = .int i
  | .str x, v => v = .str x
  | .ty n, v => v = .ty n
  | .tup ds, v => ∃ a xs, v = .ref a ∧ SqT K G a xs ∧ RVs K mg G ds xs
  | .lst ds, v => ∃ a xs, v = .ref a ∧ G a = some (.lst xs) ∧ RVs K mg G ds xs
  | .dct kvs, v => ∃ a ks, v = .ref a ∧ G a = some (.dK ks) ∧ RKs K mg G kvs ks
  | .obj c fs, v => ∃ a C dx vs, v = .ref a ∧ mg c = some (.ref C) ∧ G a = some (.ins C dx vs) ∧ G dx = some (.own a) ∧ RFs K mg G fs vs
  | .fn x, v => ∃ a, v = .ref a ∧ mg x = some (.ref a)
  | .scr ns, v => ∃ a, v = .ref a ∧ SqL K G a (ns.map V.int)
def RVs (K : PySem.W.Frag) (mg : Str → Option Value) (G : Hp) : List D → List V → Prop
  | [], xs => xs = []
  | d :: ds, xs => ∃ y ys, xs = y :: ys ∧ RV K mg G d y ∧ RVs K mg G ds ys
def RKs (K : PySem.W.Frag) (mg : Str → Option Value) (G : Hp) : List (Key × D) → List (Key × V) → Prop
  | [], xs => xs = []
  | (k, d) :: ds, xs => ∃ y ys, xs = (k, y) :: ys ∧ RV K mg G d y ∧ RKs K mg G ds ys
def RFs (K : PySem.W.Frag) (mg : Str → Option Value) (G : Hp) : List (Str × D) → List (Str × V) → Prop
  | [], xs => xs = []
  | (k, d) :: ds, xs => ∃ y ys, xs = (k, y) :: ys ∧ RV K mg G d y ∧ RFs K mg G ds ys
end
/-- the kept part stands in the heap -/
def SubH (G H : Hp) : Prop := ∀ b o, G b = some o → H b = some o
section
variable {K : PySem.W.Frag} {mg : Str → Option Value} {G G' H H' : Hp}
theorem sqT_mono {a : Addr} {xs : List V} (h : SubH G G') (q : SqT K G a xs) : SqT K G' a xs := by
  rcases q with (q | ⟨o, q⟩) | q
  · exact .inl (.inl (h _ _ q))
  · exact .inl (.inr ⟨o, h _ _ q⟩)
  · exact .inr q
theorem sqL_mono {a : Addr} {xs : List V} (h : SubH G G') (q : SqL K G a xs) : SqL K G' a xs := by
  rcases q with (q | ⟨o, q⟩) | q
  · exact .inl (.inl (h _ _ q))
  · exact .inl (.inr ⟨o, h _ _ q⟩)
  · exact .inr q
mutual
theorem RV.mono (h : SubH G G') : ∀ (d : D) (v : V), RV K mg G d v → RV K mg G' d v
  | .non, _, r => r
  | .bl _, _, r => r
  | .int _, _, r => r
  | .str _, _, r => r
  | .ty _, _, r => r
  | .tup ds, _, ⟨a, xs, e, q, r⟩ => ⟨a, xs, e, sqT_mono h q, RVs.mono h ds xs r⟩
  | .lst ds, _, ⟨a, xs, e, q, r⟩ => ⟨a, xs, e, h _ _ q, RVs.mono h ds xs r⟩
  | .dct kvs, _, ⟨a, ks, e, q, r⟩ => ⟨a, ks, e, h _ _ q, RKs.mono h kvs ks r⟩
  | .obj _ fs, _, ⟨a, C, dx, vs, e, m, q, q2, r⟩ => ⟨a, C, dx, vs, e, m, h _ _ q, h _ _ q2, RFs.mono h fs vs r⟩
  | .fn _, _, r => r
  | .scr _, _, ⟨a, e, q⟩ => ⟨a, e, sqL_mono h q⟩
theorem RVs.mono (h : SubH G G') : ∀ (ds : List D) (xs : List V), RVs K mg G ds xs → RVs K mg G' ds xs
  | [], _, r => r
  | d :: ds, _, ⟨y, ys, e, r, t⟩ => ⟨y, ys, e, RV.mono h d y r, RVs.mono h ds ys t⟩
theorem RKs.mono (h : SubH G G') : ∀ (ds : List (Key × D)) (xs : List (Key × V)), RKs K mg G ds xs → RKs K mg G' ds xs
  | [], _, r => r
  | (_, d) :: ds, _, ⟨y, ys, e, r, t⟩ => ⟨y, ys, e, RV.mono h d y r, RKs.mono h ds ys t⟩
theorem RFs.mono (h : SubH G G') : ∀ (ds : List (Str × D)) (xs : List (Str × V)), RFs K mg G ds xs → RFs K mg G' ds xs
  | [], _, r => r
  | (_, d) :: ds, _, ⟨y, ys, e, r, t⟩ => ⟨y, ys, e, RV.mono h d y r, RFs.mono h ds ys t⟩
end
theorem RVs.length : ∀ {ds : List D} {xs : List V}, RVs K mg G ds xs → ds.length = xs.length
  | [], _, r => by rw [show _ = [] from r]; rfl
  | _ :: ds, _, ⟨_, ys, e, _, t⟩ => by rw [e, List.length_cons, List.length_cons, RVs.length t]
theorem RKs.length : ∀ {ds : List (Key × D)} {xs : List (Key × V)}, RKs K mg G ds xs → ds.length = xs.length
  | [], _, r => by rw [show _ = [] from r]; rfl
  | (_, _) :: ds, _, ⟨_, ys, e, _, t⟩ => by rw [e, List.length_cons, List.length_cons, RKs.length t]
theorem RVs.get : ∀ {ds : List D} {xs : List V} {i : Nat} {d : D}, RVs K mg G ds xs → ds[i]? = some d → ∃ v, xs[i]? = some v ∧ RV K mg G d v
  | [], _, _, _, _, e => by simp at e
  | d :: ds, _, 0, _, ⟨y, ys, e, r, t⟩, h => by
    have h2 := Option.some.inj (show some d = some _ from h)
    rw [← h2]
    exact ⟨y, by rw [e]; rfl, r⟩
  | d :: ds, _, i + 1, z, ⟨y, ys, e, r, t⟩, h => by
    obtain ⟨v, h1, h2⟩ := RVs.get (i := i) (d := z) t (by simpa using h)
    exact ⟨v, by rw [e]; simpa using h1, h2⟩
theorem RVs.append : ∀ {ds es : List D} {xs ys : List V}, RVs K mg G ds xs → RVs K mg G es ys → RVs K mg G (ds ++ es) (xs ++ ys)
  | [], _, _, _, r, s => by rw [show _ = [] from r]; exact s
  | d :: ds, _, _, _, ⟨y, zs, e, r, t⟩, s => by rw [e]; exact ⟨y, _, rfl, r, RVs.append t s⟩
theorem RVs.take : ∀ {ds : List D} {xs : List V} (n : Nat), RVs K mg G ds xs → RVs K mg G (ds.take n) (xs.take n)
  | _, _, 0, _ => rfl
  | [], _, _ + 1, r => by rw [show _ = [] from r]; rfl
  | d :: ds, _, n + 1, ⟨y, ys, e, r, t⟩ => by rw [e]; exact ⟨y, _, rfl, r, RVs.take n t⟩
theorem RVs.drop : ∀ {ds : List D} {xs : List V} (n : Nat), RVs K mg G ds xs → RVs K mg G (ds.drop n) (xs.drop n)
  | _, _, 0, r => r
  | [], _, _ + 1, r => by rw [show _ = [] from r]; rfl
  | d :: ds, _, n + 1, ⟨y, ys, e, r, t⟩ => by rw [e]; exact RVs.drop n t
theorem RVs.set {d : D} {v : V} (q : RV K mg G d v) : ∀ {ds : List D} {xs : List V} (n : Nat), RVs K mg G ds xs → RVs K mg G (ds.set n d) (xs.set n v)
  | [], _, _, r => by rw [show _ = [] from r]; rfl
  | e :: ds, _, 0, ⟨y, ys, h, r, t⟩ => by rw [h]; exact ⟨v, _, rfl, q, t⟩
  | e :: ds, _, n + 1, ⟨y, ys, h, r, t⟩ => by rw [h]; exact ⟨y, _, rfl, r, RVs.set q n t⟩
theorem RVs.one {d : D} {v : V} (r : RV K mg G d v) : RVs K mg G [d] [v] := ⟨v, [], rfl, r, rfl⟩
theorem RVs.reverse : ∀ {ds : List D} {xs : List V}, RVs K mg G ds xs → RVs K mg G ds.reverse xs.reverse
  | [], _, r => by rw [show _ = [] from r]; rfl
  | d :: ds, _, ⟨y, ys, e, r, t⟩ => by
    rw [e, List.reverse_cons, List.reverse_cons]
    exact RVs.append (RVs.reverse t) (RVs.one r)
theorem RVs.of_ints : ∀ (ns : List Int), RVs K mg G (ns.map D.int) (ns.map V.int)
  | [] => rfl
  | n :: ns => ⟨_, _, rfl, rfl, RVs.of_ints ns⟩
end
/-- a slot's content, a value that was reckoned: data, or an object that only this frame holds -/
inductive W where
  | d (x : D) | own (x : D)
  deriving Inhabited
def W.data : W → D
  | .d x => x
  | .own x => x
abbrev Rho := List (Option W)
/-- an object that only this frame holds, at a -/
def RO (K : PySem.W.Frag) (mg : Str → Option Value) (H G : Hp) (a : Addr) : D → Prop
  | .lst ds => ∃ xs, H a = some (.lst xs) ∧ RVs K mg G ds xs
  | .dct kvs => ∃ ks, H a = some (.dK ks) ∧ RKs K mg G kvs ks
  | _ => False
def RW (K : PySem.W.Frag) (mg : Str → Option Value) (H G : Hp) (v : V) : W → Prop
  | .d x => RV K mg G x v
  | .own x => ∃ a, v = .ref a ∧ G a = none ∧ RO K mg H G a x
structure Rel (K : PySem.W.Frag) (mg : Str → Option Value) (σ : St) (ρ : Rho) (H G : Hp) : Prop where
  len : ρ.length = σ.length
  sub : SubH G H
  slot : ∀ (i : Nat) (w : W), ρ[i]? = some (some w) → ∃ v, σ[i]? = some (some v) ∧ RW K mg H G v w
  dis : ∀ (i j : Nat) (x y : D) (v : V), ρ[i]? = some (some (.own x)) → ρ[j]? = some (some (.own y)) → σ[i]? = some (some v) → σ[j]? = some (some v) → i = j
/-- the slots' own objects -/
def OwnS (σ : St) (ρ : Rho) (b : Addr) : Prop := ∃ (i : Nat) (x : D), ρ[i]? = some (some (.own x)) ∧ σ[i]? = some (some (.ref b))
/-- what stays: the kept part, and what others hold; io: the slots that are never stored anew -/
structure Fr (io : List Nat) (σ : St) (ρ : Rho) (H G : Hp) (σ' : St) (ρ' : Rho) (H' G' : Hp) : Prop where
  grow : SubH G G'
  keep : ∀ b o, H b = some o → G b = none → ¬ OwnS σ ρ b → H' b = some o ∧ G' b = none ∧ ¬ OwnS σ' ρ' b
  fix : ∀ j ∈ io, σ'[j]? = σ[j]?
  len : σ'.length = σ.length
/-- a result: its own object is new, or a slot's that was let go -/
def RR (K : PySem.W.Frag) (mg : Str → Option Value) (σ : St) (ρ : Rho) (H : Hp) (σ' : St) (ρ' : Rho) (H' G' : Hp) (v : V) (w : W) : Prop :=
  RW K mg H' G' v w ∧ ∀ x a, w = .own x → v = .ref a → ¬ OwnS σ' ρ' a ∧ ∀ o, H a = some o → OwnS σ ρ a
/-- a result of a part -/
inductive Res (α : Type) where
  | ok (a : α) (ρ : Rho)
  | exc (c : Str) (fs : List (Str × D)) (ρ : Rho)
  | bad
abbrev M (α : Type) := Rho → Res α
def Res.bind {α β : Type} (r : Res α) (f : α → M β) : Res β :=
  match r with
  | .ok a ρ => f a ρ
  | .exc c fs ρ => .exc c fs ρ
  | .bad => .bad
/-- .. as data: an own object is kept from now on -/
def Res.dat {β : Type} (r : Res W) (f : D → M β) : Res β :=
  match r with
  | .ok w ρ => f w.data ρ
  | .exc c fs ρ => .exc c fs ρ
  | .bad => .bad
/-- an exception in the air: its class by name, its fields -/
def RX (K : PySem.W.Frag) (mg : Str → Option Value) (H G : Hp) (cls : Value) (od : Option Addr) (c : Str) (fs : List (Str × D)) : Prop :=
  ∃ C, cls = .ref C ∧ mg c = some (.ref C) ∧
    (fs = [] ∨ ∃ d vs, od = some d ∧ H d = some (.xd vs) ∧ ∀ f x, fs.lookup f = some x → ∃ v, vs.lookup f = some v ∧ RV K mg G x v)
/-- what is to be shown of a part's result, from the state (σ ρ H G) -/
def GoE (K : PySem.W.Frag) (mg : Str → Option Value) (Wx : WX) (σ : St) (ρ : Rho) (H G : Hp) (r : Res W) (Q : VK) : Prop :=
  match r with
  | .ok w ρ' => ∀ v H' G', Rel K mg σ ρ' H' G' → Fr [] σ ρ H G σ ρ' H' G' → RR K mg σ ρ H σ ρ' H' G' v w → Q v H'
  | .exc c fs ρ' => ∀ cls od H' G', Rel K mg σ ρ' H' G' → Fr [] σ ρ H G σ ρ' H' G' → RX K mg H' G' cls od c fs → Wx cls od σ H'
  | .bad => False
def GoB (K : PySem.W.Frag) (mg : Str → Option Value) (Wx : WX) (σ : St) (ρ : Rho) (H G : Hp) (r : Res Bool) (Q : Bool → Hp → Prop) : Prop :=
  match r with
  | .ok b ρ' => ∀ H' G', Rel K mg σ ρ' H' G' → Fr [] σ ρ H G σ ρ' H' G' → Q b H'
  | .exc c fs ρ' => ∀ cls od H' G', Rel K mg σ ρ' H' G' → Fr [] σ ρ H G σ ρ' H' G' → RX K mg H' G' cls od c fs → Wx cls od σ H'
  | .bad => False
/-- an expression that is reckoned as m tells -/
def tM (K : PySem.W.Frag) (mg : Str → Option Value) (Wx : WX) (m : M W) : TE := fun σ H Q => ∃ ρ G, Rel K mg σ ρ H G ∧ GoE K mg Wx σ ρ H G (m ρ) Q
def tB2 (K : PySem.W.Frag) (mg : Str → Option Value) (Wx : WX) (m : M Bool) : TT := fun σ H Q => ∃ ρ G, Rel K mg σ ρ H G ∧ GoB K mg Wx σ ρ H G (m ρ) Q
section
variable {K : PySem.W.Frag} {mg : Str → Option Value} {Wx : WX} {io : List Nat} {σ σ1 σ2 : St} {ρ ρ1 ρ2 : Rho} {H H1 H2 G G1 G2 : Hp} {Q : VK}
theorem SubH.refl : SubH G G := fun _ _ h => h
theorem SubH.trans (a : SubH G G1) (b : SubH G1 G2) : SubH G G2 := fun c o h => b c o (a c o h)
theorem Fr.refl : Fr io σ ρ H G σ ρ H G := ⟨SubH.refl, fun _ _ h g n => ⟨h, g, n⟩, fun _ _ => rfl, rfl⟩
theorem Fr.trans (a : Fr io σ ρ H G σ1 ρ1 H1 G1) (b : Fr io σ1 ρ1 H1 G1 σ2 ρ2 H2 G2) : Fr io σ ρ H G σ2 ρ2 H2 G2 :=
  ⟨a.grow.trans b.grow, fun c o h g n => let ⟨h1, g1, n1⟩ := a.keep c o h g n; b.keep c o h1 g1 n1, fun j hj => (b.fix j hj).trans (a.fix j hj), b.len.trans a.len⟩
theorem Fr.io_nil (a : Fr [] σ ρ H G σ ρ1 H1 G1) : Fr io σ ρ H G σ ρ1 H1 G1 := ⟨a.grow, a.keep, fun _ _ => rfl, rfl⟩
theorem RW.mono {v : V} {w : W} (r : RW K mg H G v w) (g : SubH G G1) (k : ∀ x a, w = .own x → v = .ref a → H1 a = H a ∧ G1 a = none) : RW K mg H1 G1 v w := by
  cases w with
  | d x => exact RV.mono g x v r
  | own x =>
    obtain ⟨a, e, _, ro⟩ := r
    obtain ⟨k1, k2⟩ := k x a rfl e
    refine ⟨a, e, k2, ?_⟩
    cases x with
    | lst ds => obtain ⟨xs, h1, h2⟩ := ro; exact ⟨xs, k1.trans h1, RVs.mono g ds xs h2⟩
    | dct kvs => obtain ⟨xs, h1, h2⟩ := ro; exact ⟨xs, k1.trans h1, RKs.mono g kvs xs h2⟩
    | _ => exact ro.elim
theorem RO.there {a : Addr} {x : D} (r : RO K mg H G a x) : ∃ o, H a = some o ∧ Mut (some o) := by
  cases x with
  | lst ds => obtain ⟨xs, h1, _⟩ := r; exact ⟨_, h1, True.intro⟩
  | dct kvs => obtain ⟨xs, h1, _⟩ := r; exact ⟨_, h1, True.intro⟩
  | _ => exact r.elim
/-- a result told from a later state is one from an earlier one -/
theorem RR.back {v : V} {w : W} (f : Fr io σ ρ H G σ1 ρ1 H1 G1) (g : SubH G1 G2) (r : RR K mg σ1 ρ1 H1 σ2 ρ2 H2 G2 v w) : RR K mg σ ρ H σ2 ρ2 H2 G2 v w := by
  refine ⟨r.1, fun x a e1 e2 => ⟨(r.2 x a e1 e2).1, fun o h => ?_⟩⟩
  subst e1
  obtain ⟨a', ev, gn, ro⟩ := r.1
  rw [e2] at ev
  cases ev
  by_cases hown : OwnS σ ρ a
  · exact hown
  · exfalso
    cases hg : G a with
    | some o' =>
      have := g _ _ (f.grow _ _ hg)
      rw [gn] at this
      cases this
    | none =>
      obtain ⟨h1, g1, n1⟩ := f.keep a o h hg hown
      exact n1 ((r.2 x a rfl e2).2 o h1)
theorem GoE.shift {r : Res W} (f : Fr [] σ ρ H G σ ρ1 H1 G1) (h : GoE K mg Wx σ ρ H G r Q) : GoE K mg Wx σ ρ1 H1 G1 r Q := by
  cases r with
  | ok w ρ' => exact fun v H' G' R F r => h v H' G' R (f.trans F) (RR.back f F.grow r)
  | exc c fs ρ' => exact fun cls od H' G' R F r => h cls od H' G' R (f.trans F) r
  | bad => exact h
theorem GoB.shift {r : Res Bool} {Q : Bool → Hp → Prop} (f : Fr [] σ ρ H G σ ρ1 H1 G1) (h : GoB K mg Wx σ ρ H G r Q) : GoB K mg Wx σ ρ1 H1 G1 r Q := by
  cases r with
  | ok w ρ' => exact fun H' G' R F => h H' G' R (f.trans F)
  | exc c fs ρ' => exact fun cls od H' G' R F r => h cls od H' G' R (f.trans F) r
  | bad => exact h
/-- a result is kept from now on: as data -/
theorem keep_res {v : V} {w : W} (R : Rel K mg σ ρ1 H1 G1) (f : Fr [] σ ρ H G σ ρ1 H1 G1) (r : RR K mg σ ρ H σ ρ1 H1 G1 v w) :
    ∃ G2, Rel K mg σ ρ1 H1 G2 ∧ Fr [] σ ρ H G σ ρ1 H1 G2 ∧ RV K mg G2 w.data v := by
  cases w with
  | d x => exact ⟨G1, R, f, r.1⟩
  | own x =>
    obtain ⟨a, ev, gn, ro⟩ := r.1
    obtain ⟨n1, n2⟩ := r.2 x a rfl ev
    obtain ⟨o, ho, _⟩ := ro.there
    have gr : SubH G1 (upd G1 a o) := fun b u hb => by
      rw [upd_ne (fun e => by rw [e, gn] at hb; cases hb)]
      exact hb
    have rv : RV K mg (upd G1 a o) x v := by
      cases x with
      | lst ds =>
        obtain ⟨xs, h1, h2⟩ := ro
        rw [ho] at h1
        cases h1
        exact ⟨a, xs, ev, upd_same, RVs.mono gr ds xs h2⟩
      | dct kvs =>
        obtain ⟨xs, h1, h2⟩ := ro
        rw [ho] at h1
        cases h1
        exact ⟨a, xs, ev, upd_same, RKs.mono gr kvs xs h2⟩
      | _ => exact ro.elim
    refine ⟨upd G1 a o, ⟨R.len, fun b u hb => ?_, fun i w hw => ?_, R.dis⟩, ⟨f.grow.trans gr, fun b u hb hg hn => ?_, f.fix, f.len⟩, rv⟩
    · by_cases e : b = a
      · rw [e, upd_same] at hb
        rw [e, ho, hb]
      · rw [upd_ne e] at hb
        exact R.sub b u hb
    · obtain ⟨v', s', q⟩ := R.slot i w hw
      refine ⟨v', s', q.mono gr fun y b e1 e2 => ⟨rfl, ?_⟩⟩
      subst e1
      have hne : b ≠ a := fun e => n1 ⟨i, y, hw, by rw [s', e2, e]⟩
      rw [upd_ne hne]
      obtain ⟨a2, e3, g3, _⟩ := q
      rw [e2] at e3
      cases e3
      exact g3
    · obtain ⟨h1, g1, m1⟩ := f.keep b u hb hg hn
      have hne : b ≠ a := fun e => hn (by rw [e] at hb ⊢; exact n2 u hb)
      exact ⟨h1, by rw [upd_ne hne]; exact g1, m1⟩
/-- one part, then the rest -/
theorem tM_bind {m : M W} {f : W → M W} (R : Rel K mg σ ρ H G) (h : GoE K mg Wx σ ρ H G ((m ρ).bind f) Q) :
    tM K mg Wx m σ H fun v H1 => ∃ w ρ1 G1, Rel K mg σ ρ1 H1 G1 ∧ Fr [] σ ρ H G σ ρ1 H1 G1 ∧ RR K mg σ ρ H σ ρ1 H1 G1 v w ∧ m ρ = .ok w ρ1 ∧ GoE K mg Wx σ ρ H G (f w ρ1) Q := by
  refine ⟨ρ, G, R, ?_⟩
  cases e : m ρ with
  | ok w ρ1 => rw [e] at h; exact fun v H' G' R' F' r => ⟨w, ρ1, G', R', F', r, rfl, h⟩
  | exc c fs ρ1 => rw [e] at h; exact h
  | bad => rw [e] at h; exact h.elim
theorem tM_dat {m : M W} {f : D → M W} (R : Rel K mg σ ρ H G) (h : GoE K mg Wx σ ρ H G ((m ρ).dat f) Q) :
    tM K mg Wx m σ H fun v H1 => ∃ x ρ1 G1, Rel K mg σ ρ1 H1 G1 ∧ RV K mg G1 x v ∧ Fr [] σ ρ H G σ ρ1 H1 G1 ∧ GoE K mg Wx σ ρ1 H1 G1 (f x ρ1) Q := by
  refine ⟨ρ, G, R, ?_⟩
  cases e : m ρ with
  | ok w ρ1 =>
    rw [e] at h
    intro v H' G' R' F' r
    obtain ⟨G2, R2, F2, rv⟩ := keep_res R' F' r
    exact ⟨w.data, ρ1, G2, R2, rv, F2, GoE.shift F2 h⟩
  | exc c fs ρ1 => rw [e] at h; exact h
  | bad => rw [e] at h; exact h.elim
theorem tM_datB {m : M W} {f : D → M Bool} {Q : Bool → Hp → Prop} (R : Rel K mg σ ρ H G) (h : GoB K mg Wx σ ρ H G ((m ρ).dat f) Q) :
    tM K mg Wx m σ H fun v H1 => ∃ x ρ1 G1, Rel K mg σ ρ1 H1 G1 ∧ RV K mg G1 x v ∧ Fr [] σ ρ H G σ ρ1 H1 G1 ∧ GoB K mg Wx σ ρ1 H1 G1 (f x ρ1) Q := by
  refine ⟨ρ, G, R, ?_⟩
  cases e : m ρ with
  | ok w ρ1 =>
    rw [e] at h
    intro v H' G' R' F' r
    obtain ⟨G2, R2, F2, rv⟩ := keep_res R' F' r
    exact ⟨w.data, ρ1, G2, R2, rv, F2, GoB.shift F2 h⟩
  | exc c fs ρ1 => rw [e] at h; exact h
  | bad => rw [e] at h; exact h.elim
/-- new objects alone were laid -/
structure Al (K : PySem.W.Frag) (mg : Str → Option Value) (H G H' G' : Hp) (v : V) (w : W) : Prop where
  same : SubH H H'
  grow : SubH G G'
  new : ∀ b o, G' b = some o → G b = some o ∨ H b = none
  sub : SubH G' H'
  val : match w with
    | .d x => RV K mg G' x v
    | .own x => ∃ a, v = .ref a ∧ H a = none ∧ G' a = none ∧ RO K mg H' G' a x
theorem Al.here {v : V} {x : D} (s : SubH G H) (r : RV K mg G x v) : Al K mg H G H G v (.d x) := ⟨SubH.refl, SubH.refl, fun _ _ h => .inl h, s, r⟩
theorem Rel.al {v : V} {w : W} (R : Rel K mg σ ρ H G) (a : Al K mg H G H1 G1 v w) : Rel K mg σ ρ H1 G1 ∧ Fr [] σ ρ H G σ ρ H1 G1 ∧ RR K mg σ ρ H σ ρ H1 G1 v w := by
  have own : ∀ (i : Nat) (x : D) (b : Addr), ρ[i]? = some (some (.own x)) → σ[i]? = some (some (.ref b)) → H1 b = H b ∧ G1 b = none ∧ ∃ o, H b = some o := fun i x b e1 e2 => by
    obtain ⟨v', s', b', e3, g3, ro⟩ := R.slot i _ e1
    rw [e2] at s'
    cases s'
    cases e3
    obtain ⟨o, ho, _⟩ := ro.there
    refine ⟨(a.same _ _ ho).trans ho.symm, ?_, o, ho⟩
    cases hg : G1 b with
    | none => rfl
    | some u =>
      rcases a.new _ _ hg with z | z
      · rw [g3] at z; cases z
      · rw [ho] at z; cases z
  have R1 : Rel K mg σ ρ H1 G1 := ⟨R.len, a.sub, fun i w' hw => by
    obtain ⟨v', s', q⟩ := R.slot i w' hw
    refine ⟨v', s', q.mono a.grow fun y b e1 e2 => ?_⟩
    subst e1
    rw [e2] at s'
    obtain ⟨h1, h2, _⟩ := own i y b hw s'
    exact ⟨h1, h2⟩, R.dis⟩
  refine ⟨R1, ⟨a.grow, fun b o hb hg hn => ⟨a.same _ _ hb, ?_, hn⟩, fun _ h => absurd h (by simp), rfl⟩, ?_, fun x p e1 e2 => ?_⟩
  · cases hg1 : G1 b with
    | none => rfl
    | some u =>
      rcases a.new _ _ hg1 with z | z
      · rw [hg] at z; cases z
      · rw [hb] at z; cases z
  · cases w with
    | d x => exact a.val
    | own x => obtain ⟨p, e, _, g, ro⟩ := a.val; exact ⟨p, e, g, ro⟩
  · subst e1
    obtain ⟨p', e, hn, g, ro⟩ := a.val
    rw [e2] at e
    cases e
    refine ⟨fun ⟨i, y, h1, h2⟩ => ?_, fun o ho => by rw [hn] at ho; cases ho⟩
    obtain ⟨_, _, o, ho⟩ := own i y p h1 h2
    rw [hn] at ho
    cases ho
theorem GoE.al {v : V} {w : W} (R : Rel K mg σ ρ H G) (a : Al K mg H G H1 G1 v w) (h : GoE K mg Wx σ ρ H G (.ok w ρ) Q) : Q v H1 := by
  obtain ⟨R1, F1, r⟩ := R.al a
  exact h v H1 G1 R1 F1 r
/-- a new list -/
theorem Al.lst {p : Addr} {ds : List D} {xs : List V} (s : SubH G H) (hp : H p = none) (r : RVs K mg G ds xs) : Al K mg H G (upd H p (.lst xs)) G (.ref p) (.own (.lst ds)) := by
  have up : SubH H (upd H p (.lst xs)) := fun b o h => by rw [upd_ne (ne_of_none h hp)]; exact h
  have gp : G p = none := by
    cases e : G p with
    | none => rfl
    | some o => have := s _ _ e; rw [hp] at this; cases this
  exact ⟨up, SubH.refl, fun _ _ h => .inl h, s.trans up, p, rfl, hp, gp, xs, upd_same, r⟩
theorem Al.dct {p : Addr} {ds : List (Key × D)} {xs : List (Key × V)} (s : SubH G H) (hp : H p = none) (r : RKs K mg G ds xs) : Al K mg H G (upd H p (.dK xs)) G (.ref p) (.own (.dct ds)) := by
  have up : SubH H (upd H p (.dK xs)) := fun b o h => by rw [upd_ne (ne_of_none h hp)]; exact h
  have gp : G p = none := by
    cases e : G p with
    | none => rfl
    | some o => have := s _ _ e; rw [hp] at this; cases this
  exact ⟨up, SubH.refl, fun _ _ h => .inl h, s.trans up, p, rfl, hp, gp, xs, upd_same, r⟩
/-- a new tuple -/
theorem Al.tup {p : Addr} {ds : List D} {xs : List V} (s : SubH G H) (hp : H p = none) (r : RVs K mg G ds xs) : Al K mg H G (upd H p (.tup xs)) (upd G p (.tup xs)) (.ref p) (.d (.tup ds)) := by
  have gp : G p = none := by
    cases e : G p with
    | none => rfl
    | some o => have := s _ _ e; rw [hp] at this; cases this
  have upH : SubH H (upd H p (.tup xs)) := fun b o h => by rw [upd_ne (ne_of_none h hp)]; exact h
  have upG : SubH G (upd G p (.tup xs)) := fun b o h => by rw [upd_ne (ne_of_none h gp)]; exact h
  refine ⟨upH, upG, fun b o h => ?_, fun b o h => ?_, p, xs, rfl, SqT.of upd_same, RVs.mono upG ds xs r⟩
  · by_cases e : b = p
    · rw [e]; exact .inr hp
    · rw [upd_ne e] at h; exact .inl h
  · by_cases e : b = p
    · rw [e] at h ⊢
      rw [upd_same] at h ⊢
      exact h
    · rw [upd_ne e] at h ⊢
      exact s _ _ h
end
section
variable {X : Cx} {e : Expr} {t t' : TE} {u u' : TT}
theorem peImp (h : PE X e t) (w : ∀ σ H Q, t' σ H Q → t σ H Q) : PE X e t' := ⟨fun pins s σ H Q I q => h.run pins s σ H Q I (w σ H Q q)⟩
theorem ptImp (h : PT X e u) (w : ∀ σ H Q, u' σ H Q → u σ H Q) : PT X e u' := ⟨fun pins s σ H Q I q => h.run pins s σ H Q I (w σ H Q q)⟩
theorem paImp {es : List Expr} {a a' : TA} (h : PA X es a) (w : ∀ σ H Q, a' σ H Q → a σ H Q) : PA X es a' := ⟨fun pos pins s σ H Q I q => h.run pos pins s σ H Q I (w σ H Q q)⟩
theorem psImp {st : Stmt} {a a' : TS} (h : PS X st a) (w : ∀ D σ H, a' D σ H → a D σ H) : PS X st a' := ⟨fun pins s σ H D I q => h.run pins s σ H D I (w D σ H q)⟩
theorem pssImp {st : List Stmt} {a a' : TS} (h : PSs X st a) (w : ∀ D σ H, a' D σ H → a D σ H) : PSs X st a' := ⟨fun pins s σ H D I q => h.run pins s σ H D I (w D σ H q)⟩
end
/-- the expression e is reckoned as m tells -/
abbrev PM (X : Cx) (Wx : WX) (e : Expr) (m : M W) : Prop := PE X e (tM X.K X.mg Wx m)
abbrev PMB (X : Cx) (Wx : WX) (e : Expr) (m : M Bool) : Prop := PT X e (tB2 X.K X.mg Wx m)
end FL
set_option Elab.async false
set_option linter.all false
set_option maxRecDepth 100000
set_option maxHeartbeats 2000000
namespace FL
open PySem PySem.Spec L2
open PyProof.Rows hiding St
/-- what can be read now: an own object too -/
def RH (K : PySem.W.Frag) (mg : Str → Option Value) (H G : Hp) : D → V → Prop
  | .lst ds, v => ∃ a xs, v = .ref a ∧ H a = some (.lst xs) ∧ RVs K mg G ds xs
  | .dct kvs, v => ∃ a ks, v = .ref a ∧ H a = some (.dK ks) ∧ RKs K mg G kvs ks
  | d, v => RV K mg G d v
/-- an operand: a datum, or a slot that is read when the operation is done -/
inductive A where
  | val (x : D) | ref (i : Nat)
def A.res (ρ : Rho) : A → Option D
  | .val x => some x
  | .ref i => match ρ[i]? with
    | some (some w) => some w.data
    | _ => none
def RAt (K : PySem.W.Frag) (mg : Str → Option Value) (σ : St) (G : Hp) (v : V) : A → Prop
  | .val x => RV K mg G x v
  | .ref i => σ[i]? = some (some v)
def GoA (K : PySem.W.Frag) (mg : Str → Option Value) (Wx : WX) (σ : St) (ρ : Rho) (H G : Hp) (r : Res A) (Q : VK) : Prop :=
  match r with
  | .ok a ρ' => ∀ v H' G', Rel K mg σ ρ' H' G' → Fr [] σ ρ H G σ ρ' H' G' → RAt K mg σ G' v a → Q v H'
  | .exc c fs ρ' => ∀ cls od H' G', Rel K mg σ ρ' H' G' → Fr [] σ ρ H G σ ρ' H' G' → RX K mg H' G' cls od c fs → Wx cls od σ H'
  | .bad => False
def GoL (K : PySem.W.Frag) (mg : Str → Option Value) (Wx : WX) (σ : St) (ρ : Rho) (H G : Hp) (r : Res (List D)) (Q : List V → Hp → Prop) : Prop :=
  match r with
  | .ok ds ρ' => ∀ vs H' G', Rel K mg σ ρ' H' G' → Fr [] σ ρ H G σ ρ' H' G' → RVs K mg G' ds vs → Q vs H'
  | .exc c fs ρ' => ∀ cls od H' G', Rel K mg σ ρ' H' G' → Fr [] σ ρ H G σ ρ' H' G' → RX K mg H' G' cls od c fs → Wx cls od σ H'
  | .bad => False
/-- operands of a pure call -/
def RAs (K : PySem.W.Frag) (mg : Str → Option Value) (σ : St) (G : Hp) : List V → List A → Prop
  | [], [] => True
  | v :: vs, a :: as => RAt K mg σ G v a ∧ RAs K mg σ G vs as
  | _, _ => False
def GoAs (K : PySem.W.Frag) (mg : Str → Option Value) (Wx : WX) (σ : St) (ρ : Rho) (H G : Hp) (r : Res (List A)) (Q : List V → Hp → Prop) : Prop :=
  match r with
  | .ok as ρ' => ∀ vs H' G', Rel K mg σ ρ' H' G' → Fr [] σ ρ H G σ ρ' H' G' → RAs K mg σ G' vs as → Q vs H'
  | .exc c fs ρ' => ∀ cls od H' G', Rel K mg σ ρ' H' G' → Fr [] σ ρ H G σ ρ' H' G' → RX K mg H' G' cls od c fs → Wx cls od σ H'
  | .bad => False
def tA (K : PySem.W.Frag) (mg : Str → Option Value) (Wx : WX) (m : M A) : TE := fun σ H Q => ∃ ρ G, Rel K mg σ ρ H G ∧ GoA K mg Wx σ ρ H G (m ρ) Q
def tL (K : PySem.W.Frag) (mg : Str → Option Value) (Wx : WX) (m : M (List D)) : TA := fun σ H Q => ∃ ρ G, Rel K mg σ ρ H G ∧ GoL K mg Wx σ ρ H G (m ρ) Q
def tAs (K : PySem.W.Frag) (mg : Str → Option Value) (Wx : WX) (m : M (List A)) : TA := fun σ H Q => ∃ ρ G, Rel K mg σ ρ H G ∧ GoAs K mg Wx σ ρ H G (m ρ) Q
abbrev PMA (X : Cx) (Wx : WX) (e : Expr) (m : M A) : Prop := PE X e (tA X.K X.mg Wx m)
abbrev PML (X : Cx) (Wx : WX) (es : List Expr) (m : M (List D)) : Prop := PA X es (tL X.K X.mg Wx m)
abbrev PMAs (X : Cx) (Wx : WX) (es : List Expr) (m : M (List A)) : Prop := PA X es (tAs X.K X.mg Wx m)
section
variable {K : PySem.W.Frag} {mg : Str → Option Value} {Wx : WX} {io : List Nat} {σ σ1 σ2 : St} {ρ ρ1 ρ2 : Rho} {H H1 H2 G G1 G2 : Hp} {Q : VK}
theorem SubH.nothing : SubH (fun _ => none) G := fun b o z => by
  have z' : (none : Option HO) = some o := z
  cases z'
theorem RH.of {d : D} {v : V} (s : SubH G H) (r : RV K mg G d v) : RH K mg H G d v := by
  cases d with
  | lst ds => obtain ⟨a, xs, e, q, t⟩ := r; exact ⟨a, xs, e, s _ _ q, t⟩
  | dct ds => obtain ⟨a, xs, e, q, t⟩ := r; exact ⟨a, xs, e, s _ _ q, t⟩
  | _ => exact r
theorem Rel.read {v : V} {i : Nat} {w : W} (R : Rel K mg σ ρ H G) (e : ρ[i]? = some (some w)) (s : σ[i]? = some (some v)) : RH K mg H G w.data v := by
  obtain ⟨v', s', q⟩ := R.slot i w e
  rw [s] at s'
  cases s'
  cases w with
  | d x => exact RH.of R.sub q
  | own x =>
    obtain ⟨a, ev, _, ro⟩ := q
    cases x with
    | lst ds => obtain ⟨xs, h1, h2⟩ := ro; exact ⟨a, xs, ev, h1, h2⟩
    | dct ds => obtain ⟨xs, h1, h2⟩ := ro; exact ⟨a, xs, ev, h1, h2⟩
    | _ => exact ro.elim
theorem RAt.read {v : V} {a : A} {x : D} (R : Rel K mg σ ρ H G) (r : RAt K mg σ G v a) (e : a.res ρ = some x) : RH K mg H G x v := by
  cases a with
  | val y =>
    have e' : y = x := Option.some.inj e
    subst e'
    exact RH.of R.sub r
  | ref i =>
    have e2 : (match ρ[i]? with
      | some (some w) => some w.data
      | _ => none) = some x := e
    split at e2
    · rename_i w hw
      have e' := Option.some.inj e2
      subst e'
      exact R.read hw r
    · cases e2
theorem RAt.mono {v : V} {a : A} (g : SubH G G1) (r : RAt K mg σ G v a) : RAt K mg σ G1 v a := by
  cases a with
  | val y => exact RV.mono g y v r
  | ref i => exact r
theorem RAs.mono (g : SubH G G1) : ∀ {vs : List V} {as : List A}, RAs K mg σ G vs as → RAs K mg σ G1 vs as
  | [], [], _ => True.intro
  | _ :: _, _ :: _, ⟨h, t⟩ => ⟨h.mono g, RAs.mono g t⟩
  | [], _ :: _, h => h.elim
  | _ :: _, [], h => h.elim
theorem GoA.shift {r : Res A} (f : Fr [] σ ρ H G σ ρ1 H1 G1) (h : GoA K mg Wx σ ρ H G r Q) : GoA K mg Wx σ ρ1 H1 G1 r Q := by
  cases r with
  | ok w ρ' => exact fun v H' G' R F r => h v H' G' R (f.trans F) r
  | exc c fs ρ' => exact fun cls od H' G' R F r => h cls od H' G' R (f.trans F) r
  | bad => exact h
theorem GoL.shift {r : Res (List D)} {Q : List V → Hp → Prop} (f : Fr [] σ ρ H G σ ρ1 H1 G1) (h : GoL K mg Wx σ ρ H G r Q) : GoL K mg Wx σ ρ1 H1 G1 r Q := by
  cases r with
  | ok w ρ' => exact fun v H' G' R F r => h v H' G' R (f.trans F) r
  | exc c fs ρ' => exact fun cls od H' G' R F r => h cls od H' G' R (f.trans F) r
  | bad => exact h
theorem GoAs.shift {r : Res (List A)} {Q : List V → Hp → Prop} (f : Fr [] σ ρ H G σ ρ1 H1 G1) (h : GoAs K mg Wx σ ρ H G r Q) : GoAs K mg Wx σ ρ1 H1 G1 r Q := by
  cases r with
  | ok w ρ' => exact fun v H' G' R F r => h v H' G' R (f.trans F) r
  | exc c fs ρ' => exact fun cls od H' G' R F r => h cls od H' G' R (f.trans F) r
  | bad => exact h
theorem tM_mono {m : M W} {Q' : VK} (h : tM K mg Wx m σ H Q) (k : ∀ v H1, Q v H1 → Q' v H1) : tM K mg Wx m σ H Q' := by
  obtain ⟨ρ, G, R, g⟩ := h
  refine ⟨ρ, G, R, ?_⟩
  cases e : m ρ with
  | ok w ρ1 => rw [e] at g; exact fun v H' G' R' F' r => k _ _ (g v H' G' R' F' r)
  | exc c fs ρ1 => rw [e] at g; exact g
  | bad => rw [e] at g; exact g
theorem tB2_mono {m : M Bool} {Q Q' : Bool → Hp → Prop} (h : tB2 K mg Wx m σ H Q) (k : ∀ v H1, Q v H1 → Q' v H1) : tB2 K mg Wx m σ H Q' := by
  obtain ⟨ρ, G, R, g⟩ := h
  refine ⟨ρ, G, R, ?_⟩
  cases e : m ρ with
  | ok w ρ1 => rw [e] at g; exact fun H' G' R' F' => k _ _ (g H' G' R' F')
  | exc c fs ρ1 => rw [e] at g; exact g
  | bad => rw [e] at g; exact g
theorem tA_mono {m : M A} {Q' : VK} (h : tA K mg Wx m σ H Q) (k : ∀ v H1, Q v H1 → Q' v H1) : tA K mg Wx m σ H Q' := by
  obtain ⟨ρ, G, R, g⟩ := h
  refine ⟨ρ, G, R, ?_⟩
  cases e : m ρ with
  | ok w ρ1 => rw [e] at g; exact fun v H' G' R' F' r => k _ _ (g v H' G' R' F' r)
  | exc c fs ρ1 => rw [e] at g; exact g
  | bad => rw [e] at g; exact g
theorem tL_mono {m : M (List D)} {Q Q' : List V → Hp → Prop} (h : tL K mg Wx m σ H Q) (k : ∀ v H1, Q v H1 → Q' v H1) : tL K mg Wx m σ H Q' := by
  obtain ⟨ρ, G, R, g⟩ := h
  refine ⟨ρ, G, R, ?_⟩
  cases e : m ρ with
  | ok w ρ1 => rw [e] at g; exact fun v H' G' R' F' r => k _ _ (g v H' G' R' F' r)
  | exc c fs ρ1 => rw [e] at g; exact g
  | bad => rw [e] at g; exact g
theorem tAs_mono {m : M (List A)} {Q Q' : List V → Hp → Prop} (h : tAs K mg Wx m σ H Q) (k : ∀ v H1, Q v H1 → Q' v H1) : tAs K mg Wx m σ H Q' := by
  obtain ⟨ρ, G, R, g⟩ := h
  refine ⟨ρ, G, R, ?_⟩
  cases e : m ρ with
  | ok w ρ1 => rw [e] at g; exact fun v H' G' R' F' r => k _ _ (g v H' G' R' F' r)
  | exc c fs ρ1 => rw [e] at g; exact g
  | bad => rw [e] at g; exact g
theorem tA_bind {m : M A} {f : A → M W} (R : Rel K mg σ ρ H G) (h : GoE K mg Wx σ ρ H G ((m ρ).bind f) Q) :
    tA K mg Wx m σ H fun v H1 => ∃ a ρ1 G1, Rel K mg σ ρ1 H1 G1 ∧ RAt K mg σ G1 v a ∧ Fr [] σ ρ H G σ ρ1 H1 G1 ∧ GoE K mg Wx σ ρ1 H1 G1 (f a ρ1) Q := by
  refine ⟨ρ, G, R, ?_⟩
  cases e : m ρ with
  | ok w ρ1 => rw [e] at h; exact fun v H' G' R' F' r => ⟨w, ρ1, G', R', r, F', GoE.shift F' h⟩
  | exc c fs ρ1 => rw [e] at h; exact h
  | bad => rw [e] at h; exact h.elim
theorem tA_bindB {m : M A} {f : A → M Bool} {Q : Bool → Hp → Prop} (R : Rel K mg σ ρ H G) (h : GoB K mg Wx σ ρ H G ((m ρ).bind f) Q) :
    tA K mg Wx m σ H fun v H1 => ∃ a ρ1 G1, Rel K mg σ ρ1 H1 G1 ∧ RAt K mg σ G1 v a ∧ Fr [] σ ρ H G σ ρ1 H1 G1 ∧ GoB K mg Wx σ ρ1 H1 G1 (f a ρ1) Q := by
  refine ⟨ρ, G, R, ?_⟩
  cases e : m ρ with
  | ok w ρ1 => rw [e] at h; exact fun v H' G' R' F' r => ⟨w, ρ1, G', R', r, F', GoB.shift F' h⟩
  | exc c fs ρ1 => rw [e] at h; exact h
  | bad => rw [e] at h; exact h.elim
theorem tA_bindAs {m : M A} {f : A → M (List A)} {Q : List V → Hp → Prop} (R : Rel K mg σ ρ H G) (h : GoAs K mg Wx σ ρ H G ((m ρ).bind f) Q) :
    tA K mg Wx m σ H fun v H1 => ∃ a ρ1 G1, Rel K mg σ ρ1 H1 G1 ∧ RAt K mg σ G1 v a ∧ Fr [] σ ρ H G σ ρ1 H1 G1 ∧ GoAs K mg Wx σ ρ1 H1 G1 (f a ρ1) Q := by
  refine ⟨ρ, G, R, ?_⟩
  cases e : m ρ with
  | ok w ρ1 => rw [e] at h; exact fun v H' G' R' F' r => ⟨w, ρ1, G', R', r, F', GoAs.shift F' h⟩
  | exc c fs ρ1 => rw [e] at h; exact h
  | bad => rw [e] at h; exact h.elim
theorem tAs_bind {m : M (List A)} {f : List A → M W} (R : Rel K mg σ ρ H G) (h : GoE K mg Wx σ ρ H G ((m ρ).bind f) Q) :
    tAs K mg Wx m σ H fun v H1 => ∃ a ρ1 G1, Rel K mg σ ρ1 H1 G1 ∧ RAs K mg σ G1 v a ∧ Fr [] σ ρ H G σ ρ1 H1 G1 ∧ GoE K mg Wx σ ρ1 H1 G1 (f a ρ1) Q := by
  refine ⟨ρ, G, R, ?_⟩
  cases e : m ρ with
  | ok w ρ1 => rw [e] at h; exact fun v H' G' R' F' r => ⟨w, ρ1, G', R', r, F', GoE.shift F' h⟩
  | exc c fs ρ1 => rw [e] at h; exact h
  | bad => rw [e] at h; exact h.elim
theorem tAs_bindAs {m : M (List A)} {f : List A → M (List A)} {Q : List V → Hp → Prop} (R : Rel K mg σ ρ H G) (h : GoAs K mg Wx σ ρ H G ((m ρ).bind f) Q) :
    tAs K mg Wx m σ H fun v H1 => ∃ a ρ1 G1, Rel K mg σ ρ1 H1 G1 ∧ RAs K mg σ G1 v a ∧ Fr [] σ ρ H G σ ρ1 H1 G1 ∧ GoAs K mg Wx σ ρ1 H1 G1 (f a ρ1) Q := by
  refine ⟨ρ, G, R, ?_⟩
  cases e : m ρ with
  | ok w ρ1 => rw [e] at h; exact fun v H' G' R' F' r => ⟨w, ρ1, G', R', r, F', GoAs.shift F' h⟩
  | exc c fs ρ1 => rw [e] at h; exact h
  | bad => rw [e] at h; exact h.elim
theorem tL_bind {m : M (List D)} {f : List D → M W} (R : Rel K mg σ ρ H G) (h : GoE K mg Wx σ ρ H G ((m ρ).bind f) Q) :
    tL K mg Wx m σ H fun v H1 => ∃ a ρ1 G1, Rel K mg σ ρ1 H1 G1 ∧ RVs K mg G1 a v ∧ Fr [] σ ρ H G σ ρ1 H1 G1 ∧ GoE K mg Wx σ ρ1 H1 G1 (f a ρ1) Q := by
  refine ⟨ρ, G, R, ?_⟩
  cases e : m ρ with
  | ok w ρ1 => rw [e] at h; exact fun v H' G' R' F' r => ⟨w, ρ1, G', R', r, F', GoE.shift F' h⟩
  | exc c fs ρ1 => rw [e] at h; exact h
  | bad => rw [e] at h; exact h.elim
theorem tL_bindL {m : M (List D)} {f : List D → M (List D)} {Q : List V → Hp → Prop} (R : Rel K mg σ ρ H G) (h : GoL K mg Wx σ ρ H G ((m ρ).bind f) Q) :
    tL K mg Wx m σ H fun v H1 => ∃ a ρ1 G1, Rel K mg σ ρ1 H1 G1 ∧ RVs K mg G1 a v ∧ Fr [] σ ρ H G σ ρ1 H1 G1 ∧ GoL K mg Wx σ ρ1 H1 G1 (f a ρ1) Q := by
  refine ⟨ρ, G, R, ?_⟩
  cases e : m ρ with
  | ok w ρ1 => rw [e] at h; exact fun v H' G' R' F' r => ⟨w, ρ1, G', R', r, F', GoL.shift F' h⟩
  | exc c fs ρ1 => rw [e] at h; exact h
  | bad => rw [e] at h; exact h.elim
theorem tM_datL {m : M W} {f : D → M (List D)} {Q : List V → Hp → Prop} (R : Rel K mg σ ρ H G) (h : GoL K mg Wx σ ρ H G ((m ρ).dat f) Q) :
    tM K mg Wx m σ H fun v H1 => ∃ x ρ1 G1, Rel K mg σ ρ1 H1 G1 ∧ RV K mg G1 x v ∧ Fr [] σ ρ H G σ ρ1 H1 G1 ∧ GoL K mg Wx σ ρ1 H1 G1 (f x ρ1) Q := by
  refine ⟨ρ, G, R, ?_⟩
  cases e : m ρ with
  | ok w ρ1 =>
    rw [e] at h
    intro v H' G' R' F' r
    obtain ⟨G2, R2, F2, rv⟩ := keep_res R' F' r
    exact ⟨w.data, ρ1, G2, R2, rv, F2, GoL.shift F2 h⟩
  | exc c fs ρ1 => rw [e] at h; exact h
  | bad => rw [e] at h; exact h.elim
theorem tM_datA {m : M W} {f : D → M A} (R : Rel K mg σ ρ H G) (h : GoA K mg Wx σ ρ H G ((m ρ).dat f) Q) :
    tM K mg Wx m σ H fun v H1 => ∃ x ρ1 G1, Rel K mg σ ρ1 H1 G1 ∧ RV K mg G1 x v ∧ Fr [] σ ρ H G σ ρ1 H1 G1 ∧ GoA K mg Wx σ ρ1 H1 G1 (f x ρ1) Q := by
  refine ⟨ρ, G, R, ?_⟩
  cases e : m ρ with
  | ok w ρ1 =>
    rw [e] at h
    intro v H' G' R' F' r
    obtain ⟨G2, R2, F2, rv⟩ := keep_res R' F' r
    exact ⟨w.data, ρ1, G2, R2, rv, F2, GoA.shift F2 h⟩
  | exc c fs ρ1 => rw [e] at h; exact h
  | bad => rw [e] at h; exact h.elim
/-- a slot's own object is kept from now on -/
theorem Rel.freeze {i : Nat} {x : D} (R : Rel K mg σ ρ H G) (e : ρ[i]? = some (some (.own x))) :
    ∃ v G1, σ[i]? = some (some v) ∧ Rel K mg σ (ρ.set i (some (.d x))) H G1 ∧ Fr [] σ ρ H G σ (ρ.set i (some (.d x))) H G1 ∧ RV K mg G1 x v := by
  obtain ⟨v, s, a, ev, gn, ro⟩ := R.slot i _ e
  obtain ⟨o, ho, _⟩ := ro.there
  have hi : i < ρ.length := (List.getElem?_eq_some_iff.mp e).1
  have gr : SubH G (upd G a o) := fun b u hb => by
    rw [upd_ne (fun z => by rw [z, gn] at hb; cases hb)]
    exact hb
  have rv : RV K mg (upd G a o) x v := by
    cases x with
    | lst ds =>
      obtain ⟨xs, h1, h2⟩ := ro
      rw [ho] at h1
      cases h1
      exact ⟨a, xs, ev, upd_same, RVs.mono gr ds xs h2⟩
    | dct kvs =>
      obtain ⟨xs, h1, h2⟩ := ro
      rw [ho] at h1
      cases h1
      exact ⟨a, xs, ev, upd_same, RKs.mono gr kvs xs h2⟩
    | _ => exact ro.elim
  have at_ : ∀ (j : Nat) (w : W), (ρ.set i (some (.d x)))[j]? = some (some w) → (j = i ∧ w = .d x) ∨ (j ≠ i ∧ ρ[j]? = some (some w)) := fun j w h => by
    by_cases hj : j = i
    · subst hj
      rw [List.getElem?_set_self hi] at h
      cases h
      exact .inl ⟨rfl, rfl⟩
    · rw [List.getElem?_set_ne (Ne.symm hj)] at h
      exact .inr ⟨hj, h⟩
  refine ⟨v, upd G a o, s, ⟨by rw [List.length_set]; exact R.len, fun b u hb => ?_, fun j w hw => ?_, fun j k y z v' h1 h2 h3 h4 => ?_⟩, ⟨gr, fun b u hb hg hn => ⟨hb, ?_, fun ⟨j, y, h1, h2⟩ => ?_⟩, fun _ h => absurd h (by simp), rfl⟩, rv⟩
  · by_cases z : b = a
    · rw [z, upd_same] at hb
      rw [z, ho, hb]
    · rw [upd_ne z] at hb
      exact R.sub b u hb
  · rcases at_ j w hw with ⟨rfl, rfl⟩ | ⟨hj, hw'⟩
    · exact ⟨v, s, rv⟩
    · obtain ⟨v', s', q⟩ := R.slot j w hw'
      refine ⟨v', s', q.mono gr fun y b e1 e2 => ⟨rfl, ?_⟩⟩
      subst e1
      have hne : b ≠ a := fun z => hj (R.dis j i y x v hw' e (by rw [s', e2, z, ev]) s)
      rw [upd_ne hne]
      obtain ⟨a2, e3, g3, _⟩ := q
      rw [e2] at e3
      cases e3
      exact g3
  · rcases at_ j _ h1 with ⟨_, z⟩ | ⟨_, h1'⟩
    · cases z
    · rcases at_ k _ h2 with ⟨_, z⟩ | ⟨_, h2'⟩
      · cases z
      · exact R.dis j k y z v' h1' h2' h3 h4
  · have hne : b ≠ a := fun z => hn ⟨i, x, e, by rw [s, ev, z]⟩
    rw [upd_ne hne]
    exact hg
  · rcases at_ j _ h1 with ⟨_, z⟩ | ⟨_, h1'⟩
    · cases z
    · exact hn ⟨j, y, h1', h2⟩
end
def slotM (i : Nat) : M W := fun ρ =>
  match ρ[i]? with
  | some (some (.d x)) => .ok (.d x) ρ
  | some (some (.own x)) => .ok (.d x) (ρ.set i (some (.d x)))
  | _ => .bad
def slotA (i : Nat) : M A := fun ρ =>
  match ρ[i]? with
  | some (some (.d x)) => .ok (.val x) ρ
  | some (some (.own _)) => .ok (.ref i) ρ
  | _ => .bad
def constM (x : D) : M W := fun ρ => .ok (.d x) ρ
def datA (m : M W) : M A := fun ρ => (m ρ).dat fun x ρ => .ok (.val x) ρ
section
variable {X : Cx} {Wx : WX} {e a b c : Expr} {pos : Pos} {m ma mb mc : M W}
theorem pm_slot {i : Nat} {x : Str} (hN : X.N[i]? = some x) (hv : Vis X.env.scope x) (hd : (x == ("__debug__" : Str)) = false) (hcd : (x == ("__classdict__" : Str)) = false) : PM X Wx (.Name x pos) (slotM i) := by
  refine peImp (pe_var hN hv hd hcd) fun σ H Q h => ?_
  obtain ⟨ρ, G, R, h⟩ := h
  unfold slotM at h
  split at h
  · rename_i y hy
    obtain ⟨v, s, q⟩ := R.slot i _ hy
    exact ⟨v, s, h v H G R Fr.refl ⟨q, fun _ _ z => nomatch z⟩⟩
  · rename_i y hy
    obtain ⟨v, G1, s, R1, F1, rv⟩ := R.freeze hy
    exact ⟨v, s, h v H G1 R1 F1 ⟨rv, fun _ _ z => nomatch z⟩⟩
  · exact h.elim
theorem pma_slot {i : Nat} {x : Str} (hN : X.N[i]? = some x) (hv : Vis X.env.scope x) (hd : (x == ("__debug__" : Str)) = false) (hcd : (x == ("__classdict__" : Str)) = false) : PMA X Wx (.Name x pos) (slotA i) := by
  refine peImp (pe_var hN hv hd hcd) fun σ H Q h => ?_
  obtain ⟨ρ, G, R, h⟩ := h
  unfold slotA at h
  split at h
  · rename_i y hy
    obtain ⟨v, s, q⟩ := R.slot i _ hy
    exact ⟨v, s, h v H G R Fr.refl q⟩
  · rename_i y hy
    obtain ⟨v, s, q⟩ := R.slot i _ hy
    exact ⟨v, s, h v H G R Fr.refl s⟩
  · exact h.elim
theorem pma_of (h : PM X Wx e m) : PMA X Wx e (datA m) :=
  peImp h fun σ H Q h => by
    obtain ⟨ρ, G, R, h⟩ := h
    exact tM_mono (tM_datA R h) fun v H1 ⟨x, ρ1, G1, R1, rv, F1, k⟩ => k v H1 G1 R1 Fr.refl rv
theorem pm_const {x : D} {v : V} (h : PE X e (tC v)) (r : RV X.K X.mg (fun _ => none) x v) : PM X Wx e (constM x) :=
  peImp h fun σ H Q h => by
    obtain ⟨ρ, G, R, h⟩ := h
    exact h v H G R Fr.refl ⟨RV.mono SubH.nothing x v r, fun _ _ z => nomatch z⟩
def nilL : M (List D) := fun ρ => .ok [] ρ
def consL (m : M W) (r : M (List D)) : M (List D) := fun ρ => (m ρ).dat fun x ρ => (r ρ).bind fun xs ρ => .ok (x :: xs) ρ
def nilA : M (List A) := fun ρ => .ok [] ρ
def consA (m : M A) (r : M (List A)) : M (List A) := fun ρ => (m ρ).bind fun x ρ => (r ρ).bind fun xs ρ => .ok (x :: xs) ρ
theorem pml_nil : PML X Wx [] nilL := paImp pa_nil fun σ H Q h => by
  obtain ⟨ρ, G, R, h⟩ := h
  exact h [] H G R Fr.refl rfl
theorem pml_cons {es : List Expr} {r : M (List D)} (h : PM X Wx e m) (t : PML X Wx es r) (hs : starEach (e :: es) X.env = (false, eval e X.env) :: starEach es X.env) : PML X Wx (e :: es) (consL m r) := by
  refine paImp (pa_cons h t hs) fun σ H Q h => ?_
  obtain ⟨ρ, G, R, h⟩ := h
  refine tM_mono (tM_datL R h) fun v H1 ⟨x, ρ1, G1, R1, rv, F1, k⟩ => ?_
  refine tL_mono (tL_bindL R1 k) fun vs H2 ⟨xs, ρ2, G2, R2, rvs, F2, k2⟩ => ?_
  exact k2 (v :: vs) H2 G2 R2 Fr.refl ⟨v, vs, rfl, RV.mono F2.grow x v rv, rvs⟩
theorem pmas_nil : PMAs X Wx [] nilA := paImp pa_nil fun σ H Q h => by
  obtain ⟨ρ, G, R, h⟩ := h
  exact h [] H G R Fr.refl True.intro
theorem pmas_cons {es : List Expr} {m : M A} {r : M (List A)} (h : PMA X Wx e m) (t : PMAs X Wx es r) (hs : starEach (e :: es) X.env = (false, eval e X.env) :: starEach es X.env) : PMAs X Wx (e :: es) (consA m r) := by
  refine paImp (pa_cons h t hs) fun σ H Q h => ?_
  obtain ⟨ρ, G, R, h⟩ := h
  refine tA_mono (tA_bindAs R h) fun v H1 ⟨x, ρ1, G1, R1, rv, F1, k⟩ => ?_
  refine tAs_mono (tAs_bindAs R1 k) fun vs H2 ⟨xs, ρ2, G2, R2, rvs, F2, k2⟩ => ?_
  exact k2 (v :: vs) H2 G2 R2 Fr.refl ⟨rv.mono F2.grow, rvs⟩
end
end FL
set_option Elab.async false
set_option linter.all false
set_option maxRecDepth 100000
set_option maxHeartbeats 2000000
namespace FL
open PySem PySem.Spec L2
open PyProof.Rows hiding St
theorem meets_enum1 {v : Value} {o : Obj} {Z : Heap → Prop} (B : Begins v o Z) :
    Meets (Builtin.«enumerate.__new__» ⟨[.type "enumerate", v], []⟩) (fun _ R s => Z s.heap ∧
      R (.ok (.ret (.ref (s.heap.push o).objs.size))) { s with heap := (s.heap.push o).push { cls := .type "enumerate", data := .fields #[.none, .bool false, .ref s.heap.objs.size, rawInt 0, .none, .none] } }) := by
  refine .of_wp fun prog w A R s h => ?_
  obtain ⟨hp, g, d, tk, os⟩ := s
  obtain ⟨h1, h⟩ := h
  have sub1 := sub_enumerate
  have go : ∀ {A' : Around} {E : Value → Shared → Prop} {Q : Value → Shared → Prop}, Q (.ref hp.objs.size) ⟨hp.push o, g, d, tk, os⟩ → wpAny (model prog w) A' (pyIter v) Q E ⟨hp, g, d, tk, os⟩ :=
    fun q => B.iter prog w _ _ ⟨hp, g, d, tk, os⟩ _ h1 q
  wp_walk using go
  refine wpAny_stack_any fun st => wpAny_pure ?_
  split
  · rename_i c _ _ _ _ _
    cases (c == Value.type "enumerate") <;> (wp_walk using go; exact ⟨_, rfl, h⟩)
  · wp_walk using go
    exact ⟨_, rfl, h⟩
theorem call_enum1 {prog : Program} {w : World} {A : Around} {E : Value → Shared → Prop} {s : Shared} {v : Value} {o : Obj} {Z : Heap → Prop} {Q : Value → Shared → Prop} (B : Begins v o Z) (hz : Z s.heap)
    (h : Q (.ref (s.heap.objs.size + 1)) { s with heap := (s.heap.push o).push { cls := .type "enumerate", data := .fields #[.none, .bool false, .ref s.heap.objs.size, rawInt 0, .none, .none] } }) :
    wpAny (model prog w) A (call (.type "enumerate") [v]) Q E s := by
  have sz : (s.heap.push o).objs.size = s.heap.objs.size + 1 := Heap.size_push ..
  have at_ : ((s.heap.push o).push { cls := .type "enumerate", data := .fields #[.none, .bool false, .ref s.heap.objs.size, rawInt 0, .none, .none] }).get? (s.heap.objs.size + 1) = some { cls := .type "enumerate", data := .fields #[.none, .bool false, .ref s.heap.objs.size, rawInt 0, .none, .none] } := by
    rw [← sz]
    exact Heap.get?_push_size _ rfl
  refine callType_new F.called_enumerate (by decide) (F.typeCall_enumerate_1 _) (F.newCall_enumerate_1 _) (fun obj => F.args_object_init_2 obj _) F.entry_enumerate_new (meets_enum1 B) ⟨hz, ?_⟩
  rw [sz]
  exact ⟨⟨_, at_, rfl⟩, h⟩
/-- the tuple at a, each item in a new pair -/
def Ike (K : PySem.W.Frag) (a : Addr) : It :=
  ⟨fun i H => ∃ (xs : List V) (x : V), SqT K H a xs ∧ xs[i]? = some x,
    fun i H v H' => ∃ T x, v = .ref T ∧ H T = none ∧ H' = upd H T (.tup [.int (i : Nat), x]) ∧ ∀ xs, SqT K H a xs → xs[i]? = some x,
    fun i H => ∃ xs : List V, SqT K H a xs ∧ xs.length = i⟩
theorem turn_enumT {P : Program} {w : World} {K : PySem.W.Frag} {elts : List Expr} {kk : Nat} {tpos : Pos} (a e it : Addr) :
    Turn P w K (.Tuple elts kk tpos) (Ike K a) [e, it] e (fun i h => (∃ old, IsEnum h e it ((i : Nat) : Int) old) ∧ h.IsTupleIter it a i ∧ e ≠ it ∧ a ≠ it ∧ a ≠ e) where
  mem := List.mem_cons_self
  obj := fun i h st b hb => by
    obtain ⟨⟨old, he⟩, ⟨o, ho, hc, hd⟩, _⟩ := st
    rcases List.mem_cons.mp hb with z | z
    · exact ⟨_, by rw [z]; exact he, fun v q => by cases q⟩
    · have z' : b = it := by simpa using z
      exact ⟨o, by rw [z']; exact ho, fun v q => by rw [hd] at q; cases q⟩
  keep := fun i h h' st k => by
    obtain ⟨⟨old, he⟩, hi, n⟩ := st
    exact ⟨⟨old, k e (by simp) _ he⟩, hi.at fun o q => k it (by simp) o q, n⟩
  item := by
    intro X hP hw hK hc i pins s σ H E I hf st hg
    subst hP hw hK
    obtain ⟨⟨old, he⟩, hit, hne, nai, nae⟩ := st
    obtain ⟨xs, x, hq, hx⟩ := hg
    obtain ⟨its, rv, p, hz⟩ := I.tuple hq
    obtain ⟨u, hu, ru⟩ := rv.get hx
    have p' : s.heap.IsTuple a its.toArray := p
    have D := Draws.tuple (prog := X.prog) (w := X.w) (A := X.A.in1) (I.ok.hd hc) it a nai its.toArray
    have hlt : i < its.toArray.size := by
      rw [List.size_toArray]
      exact (List.getElem?_eq_some_iff.mp hu).1
    have le : e < s.heap.objs.size := Heap.lt_size he
    have li : it < s.heap.objs.size := by obtain ⟨_, q, _⟩ := hit; exact Heap.lt_size q
    refine wpAny_pyNext_enum_itemD D he ⟨hit, p'⟩ hlt hne (by simp [hne, Ne.symm nae]) fun y h' tk hy ho hst hT hsz hk => ?_
    have ey : y = u := by
      have hy' : its.toArray[i]? = some y := hy
      rw [show its.toArray[i]? = some u by simpa using hu] at hy'
      exact (Option.some.inj hy').symm
    subst ey
    refine ⟨_, rfl, wpAny_letOwnedTupleGo_enum (s := { s with heap := h', toks := tk + 1 }) ho fun h2 he2 sb => ?_⟩
    have newT : h2.get? s.heap.objs.size = some { cls := .type "tuple", data := .seq #[.int i tk, y] } := (sb.2 _ (Nat.ne_of_gt le)).trans hT
    have okT : ObjOk X.prog X.w (upd H s.heap.objs.size (.tup [.int (i : Nat), x])) h2 s.heap.objs.size (.tup [.int (i : Nat), x]) :=
      ⟨by rw [sizeLine_eq]; simp, [.int i tk, y], .cons ⟨_, rfl⟩ (.cons ru .nil), ⟨_, newT, rfl, _, rfl⟩⟩
    have I1 := I.turnedNew (t' := tk + 1) (h' := h2) (ch := [e, it]) (fun b ob hb q => (sb.2 b (fun z => hb (by simp [z]))).trans (hk b ob (fun z => hb (by simp [z])) (fun z => hb (by simp [z])) q)) hf (Nat.le_refl _) okT
    refine ⟨.ref s.heap.objs.size, _, I1, rfl, ⟨_, x, rfl, I.hok.fresh (Nat.le_refl _), rfl, fun ys hy => by rw [I.tuple_inj hy hq]; exact hx⟩, ⟨⟨y, ?_⟩, hst.1.at fun o q => (sb.2 it (Ne.symm hne)).trans q, hne, nai, nae⟩, fun b hb => ?_⟩
    · rw [show ((i + 1 : Nat) : Int) = (i : Int) + 1 by omega]
      exact he2
    · have lb : b < s.heap.objs.size := by
        rcases List.mem_cons.mp hb with z | z
        · rw [z]; exact le
        · have z' : b = it := by simpa using z
          rw [z']; exact li
      rw [upd_ne (Nat.ne_of_lt lb)]
      exact (hf b hb).1
  done := by
    intro X hP hw hK hc i pins s σ H E I hf st hg
    subst hP hw hK
    obtain ⟨⟨old, he⟩, hit, hne, nai, nae⟩ := st
    obtain ⟨xs, hq, hx⟩ := hg
    obtain ⟨its, rv, p, hz⟩ := I.tuple hq
    have p' : s.heap.IsTuple a its.toArray := p
    obtain ⟨f0, f1, f2, f3, f4, f5⟩ := hf it (by simp)
    have hl := rv.length
    have ei : i = its.toArray.size := by rw [List.size_toArray, ← hl, hx]
    have D := Draws.tuple (prog := X.prog) (w := X.w) (A := X.A.in1) (I.ok.hd hc) it a nai its.toArray
    exact wpAny_pyNext_enum_endD D he ⟨ei ▸ hit, p'⟩ fun h' eb => ⟨rfl, I.turned (t' := s.toks) (fun b o hb q => eb b o hb q) f0 f1 f3 f4 f5⟩
  self := fun A i s Q E st h => let ⟨⟨_, he⟩, _⟩ := st; wpAny_pyIter_enum he h
/-- enumerate(t), t a tuple -/
def iEnumT (K : PySem.W.Frag) (ta : TA) : TI := fun σ H R => ta σ H fun vs H1 => ∃ a xs, vs = [.ref a] ∧ SqT K H1 a xs ∧ R (Ike K a) H1
theorem pi_enumT {X : Cx} {e : Expr} {ta : TA} {p pos tpos : Pos} {elts : List Expr} {kk : Nat} (hg : Gl X "enumerate") (hm : X.mg "enumerate" = none) (ha : PA X [e] ta) (hs : starEach [e] X.env = [(false, eval e X.env)]) :
    PI X (.Tuple elts kk tpos) (.Call (.Name "enumerate" p) [e] [] pos) (iEnumT X.K ta) := by
  refine ⟨fun pins s σ H R I h => Call_ (ld_blt I hg hm boot_enumerate (PyProof.Rows.callWith_type1 (thn (ha.run pos pins s σ H _ I h) fun us s1 ⟨vs, H1, I1, r1, q1⟩ => ?_) hs rfl))⟩
  obtain ⟨a, xs, ex, hq, q⟩ := q1
  subst ex
  cases r1 with
  | cons r rr =>
    cases rr
    cases r
    obtain ⟨its, rv, tp, hz⟩ := I1.tuple hq
    have p' : s1.heap.IsTuple a its.toArray := tp
    have la : a < s1.heap.objs.size := by
      obtain ⟨o, ho, _⟩ := p'
      exact Heap.lt_size ho
    have sz : (s1.heap.push { cls := .type "tuple_iterator", data := .fields #[.ref a, .int 0 0] }).objs.size = s1.heap.objs.size + 1 := Heap.size_push ..
    have at_ : ((s1.heap.push { cls := .type "tuple_iterator", data := .fields #[.ref a, .int 0 0] }).push { cls := .type "enumerate", data := .fields #[.none, .bool false, .ref s1.heap.objs.size, rawInt 0, .none, .none] }).get? (s1.heap.objs.size + 1) = some { cls := .type "enumerate", data := .fields #[.none, .bool false, .ref s1.heap.objs.size, rawInt 0, .none, .none] } := by
      rw [← sz]
      exact Heap.get?_push_size _ rfl
    refine call_enum1 (begins_tuple a its.toArray) p' (wpAny_pyIter_enum at_ ?_)
    refine ⟨s1.heap.objs.size + 1, [s1.heap.objs.size + 1, s1.heap.objs.size], _, Ike X.K a, H1, rfl, I1.kept (t' := s1.toks) fun b o q => Heap.get?_push_of_some _ (Heap.get?_push_of_some _ q), turn_enumT a (s1.heap.objs.size + 1) s1.heap.objs.size,
      ⟨⟨.none, at_⟩, ⟨_, Heap.get?_push_of_some _ (Heap.get?_push_size _ rfl), rfl, rfl⟩, Nat.succ_ne_self _, Nat.ne_of_lt la, Nat.ne_of_lt (Nat.lt_succ_of_lt la)⟩, fun b hb => ?_, q⟩
    have le : s1.heap.objs.size ≤ b := by
      rcases List.mem_cons.mp hb with z | z
      · rw [z]; exact Nat.le_succ _
      · have z' : b = s1.heap.objs.size := by simpa using z
        exact Nat.le_of_eq z'.symm
    exact I1.fpOk le (I1.hok.fresh le)
theorem walk_enumT {K : PySem.W.Frag} {a : Addr} {xs : List V} : Walk (Ike K a) xs.length (fun H => SqT K H a xs) (YPair (fun i => some (.int (i : Nat))) (fun i => xs[i]?)) := by
  refine ⟨fun i H hi q => ⟨xs, xs[i], q, by simp [hi]⟩, fun H q => ⟨xs, q, rfl⟩, fun i H v H' hi q y => ?_⟩
  obtain ⟨T, x, h1, h2, h3, h4⟩ := y
  exact ⟨T, _, x, h1, h2, h3, rfl, h4 xs q⟩
/-- the items at the places that the machine reckons -/
def stepBy {α : Type} (xs : List α) (lo hi : Option Int) (st : Int) : List α :=
  (List.range (Builtin.Slice.slicePlaces (Builtin.Slice.sliceAdjust lo hi st (xs.length : Int)).1 (Builtin.Slice.sliceAdjust lo hi st (xs.length : Int)).2 st)).filterMap fun (m : Nat) => xs[((Builtin.Slice.sliceAdjust lo hi st (xs.length : Int)).1 + (m : Int) * st).toNat]?
theorem stepBy_len {α : Type} (xs : List α) (lo hi : Option Int) (st : Int) :
    (stepBy xs lo hi st).length ≤ Builtin.Slice.slicePlaces (Builtin.Slice.sliceAdjust lo hi st (xs.length : Int)).1 (Builtin.Slice.sliceAdjust lo hi st (xs.length : Int)).2 st := by
  unfold stepBy
  refine Nat.le_trans (List.length_filterMap_le _ _) ?_
  exact Nat.le_of_eq (List.length_range)
section
variable {prog : Program} {w : World} {A : Around} {E : Value → Shared → Prop} {s : Shared}
theorem sliceApplied_step {sl : Addr} {vl vu : Value} {lo hi : Option Int} {st n : Int} {t : Tok} {Q : Int × Int × Nat → Shared → Prop} (hs : s.heap.IsSliceOf sl vl vu (.int st t)) (h0 : st ≠ 0) (pl : IsPart vl lo) (pu : IsPart vu hi)
    (h : Q ((Builtin.Slice.sliceAdjust lo hi st n).1, st, Builtin.Slice.slicePlaces (Builtin.Slice.sliceAdjust lo hi st n).1 (Builtin.Slice.sliceAdjust lo hi st n).2 st) s) :
    wpAny (model prog w) A (Builtin.Slice.sliceApplied (.ref sl) (pure n)) Q E s := by
  obtain ⟨os, hos, hcs, hds⟩ := id hs
  have hb : (st == 0) = false := beq_eq_false_iff_ne.mpr h0
  unfold Builtin.Slice.sliceApplied Builtin.Slice.sliceFields
  refine wpAny_bind (wpAny_bind (wpAny_field hos hds (x := vl) rfl (wpAny_bind (wpAny_field hos hds (x := vu) rfl (wpAny_bind (wpAny_field hos hds (x := .int st t) rfl (wpAny_pure ?_)))))))
  refine wpAny_bind (HT.slicePart_ (.int st t) ?_)
  show wpAny _ _ (if (st == 0) = true then _ else _) _ _ s
  rw [if_neg (by rw [hb]; decide)]
  exact wpAny_bind (HT.slicePart_ pl (wpAny_bind (HT.slicePart_ pu (wpAny_bind (wpAny_pure (wpAny_pure h))))))
theorem getItem_tuple_step {t sl : Addr} {items : List Value} {vl vu : Value} {lo hi : Option Int} {st : Int} {k : Tok} {Q : Value → Shared → Prop} (ht : IsTup s.heap t items.toArray) (hs : s.heap.IsSliceOf sl vl vu (.int st k)) (h0 : st ≠ 0) (h1 : st ≠ 1) (pl : IsPart vl lo) (pu : IsPart vu hi)
    (hz : (stepBy items lo hi st).length ≤ sizeLine)
    (h : Q (.ref s.heap.objs.size) { s with heap := s.heap.push { cls := .type "tuple", data := .seq (stepBy items lo hi st).toArray } }) :
    wpAny (model prog w) A (getItem (.ref t) (.ref sl)) Q E s := by
  have hok : PySem.sizeOk (.seq (stepBy items lo hi st).toArray) := by
    show (stepBy items lo hi st).toArray.size ≤ sizeLine
    rw [List.size_toArray]
    exact hz
  obtain ⟨os, hos, hcs, hds⟩ := id hs
  have isS : s.TypeIs (.ref sl) "slice" := ⟨os, hos, hcs⟩
  have hb1 : (st == 1) = false := beq_eq_false_iff_ne.mpr h1
  unfold getItem
  try with_reducible refine wpAny_holding ?_
  first | refine wpAny_bind (wpAny_pure ?_) | skip
  refine wpAny_bind (wpAny_sequenceKey ht.typeIs (by decide) ?_)
  refine wpAny_bind (wpAny_callSpecial?_slot (name := Str.ofString "__getitem__") ht.typeIs PyProof.Rows.slot_tuple_getitem (wpAny_call_entry PyProof.Rows.slot_tuple_getitem ht.typeIs entry_tuple_getitem ?_ (args_tuple_getitem _ _)))
  show wpAny _ _ (Builtin.Tuple.tupleItemsOf (.ref t) >>= _) _ _ s
  refine wpAny_bind (tupleItemsOf_ ht (wpAny_bind (wpAny_typeOf isS ?_)))
  rw [if_pos (by decide)]
  refine wpAny_bind (sliceApplied_step hs h0 pl pu ?_)
  have isz : ((items.toArray.size : Nat) : Int) = (items.length : Int) := by rw [List.size_toArray]
  have pick : ((List.range (Builtin.Slice.slicePlaces (Builtin.Slice.sliceAdjust lo hi st (items.toArray.size : Int)).1 (Builtin.Slice.sliceAdjust lo hi st (items.toArray.size : Int)).2 st)).filterMap fun (m : Nat) => items.toArray[((Builtin.Slice.sliceAdjust lo hi st (items.toArray.size : Int)).1 + (m : Int) * st).toNat]?) = stepBy items lo hi st := by
    unfold stepBy
    rw [isz]
    congr 1
    funext m
    simp
  show wpAny _ _ (if ((Builtin.Slice.sliceAdjust lo hi st (items.toArray.size : Int)).1 == 0 && st == 1 && Builtin.Slice.slicePlaces (Builtin.Slice.sliceAdjust lo hi st (items.toArray.size : Int)).1 (Builtin.Slice.sliceAdjust lo hi st (items.toArray.size : Int)).2 st == items.toArray.size) = true then _ else _) _ _ s
  rw [if_neg (by rw [hb1]; simp), pick]
  first
    | exact wpAny_bind (m := Builtin.Tuple.tupleExact _) (wpAny_newObj_type (wpAny_pure ⟨_, rfl, wpAny_pure h⟩) hok)
    | exact wpAny_bind (m := Builtin.Tuple.tupleExact _) (wpAny_newObj_type (wpAny_bind (wpAny_pure (wpAny_pure ⟨_, rfl, wpAny_pure h⟩))) hok)
    | exact wpAny_bind (wpAny_bind (m := Builtin.Tuple.tupleExact _) (wpAny_newObj_type (wpAny_pure (wpAny_pure ⟨_, rfl, wpAny_pure h⟩)) hok))
    | exact wpAny_bind (wpAny_bind (m := Builtin.Tuple.tupleExact _) (wpAny_newObj_type (wpAny_pure ⟨_, rfl, wpAny_pure h⟩) hok))
end
theorem stepBy_rel {K : PySem.W.Frag} {mg : Str → Option Value} {G : Hp} {ds : List D} {xs : List V} {lo hi : Option Int} {st : Int} (r : RVs K mg G ds xs) : RVs K mg G (stepBy ds lo hi st) (stepBy xs lo hi st) := by
  have pick : ∀ (f : Nat → Nat) (l : List Nat), RVs K mg G (l.filterMap fun m => ds[f m]?) (l.filterMap fun m => xs[f m]?) := fun f l => by
    induction l with
    | nil => exact rfl
    | cons m l ih =>
      cases e : ds[f m]? with
      | none =>
        have e2 : xs[f m]? = none := by
          rw [List.getElem?_eq_none_iff] at e ⊢
          rw [← r.length]
          exact e
        have h1 : (m :: l).filterMap (fun m => ds[f m]?) = l.filterMap fun m => ds[f m]? := List.filterMap_cons_none (f := fun m => ds[f m]?) e
        have h2 : (m :: l).filterMap (fun m => xs[f m]?) = l.filterMap fun m => xs[f m]? := List.filterMap_cons_none (f := fun m => xs[f m]?) e2
        rw [h1, h2]
        exact ih
      | some d =>
        obtain ⟨v, e2, rv⟩ := r.get e
        have h1 : (m :: l).filterMap (fun m => ds[f m]?) = d :: l.filterMap fun m => ds[f m]? := List.filterMap_cons_some (f := fun m => ds[f m]?) e
        have h2 : (m :: l).filterMap (fun m => xs[f m]?) = v :: l.filterMap fun m => xs[f m]? := List.filterMap_cons_some (f := fun m => xs[f m]?) e2
        rw [h1, h2]
        exact ⟨v, _, rfl, rv, ih⟩
  unfold stepBy
  rw [r.length]
  exact pick (fun m => ((Builtin.Slice.sliceAdjust lo hi st (xs.length : Int)).1 + (m : Int) * st).toNat) _
theorem stepBy_vals {us : List Value} {xs : List V} {lo hi : Option Int} {st : Int} (r : Vals xs us) : Vals (stepBy xs lo hi st) (stepBy us lo hi st) := by
  have pick : ∀ (f : Nat → Nat) (l : List Nat), Vals (l.filterMap fun m => xs[f m]?) (l.filterMap fun m => us[f m]?) := fun f l => by
    induction l with
    | nil => exact .nil
    | cons m l ih =>
      cases e : xs[f m]? with
      | none =>
        have e2 : us[f m]? = none := by
          rw [List.getElem?_eq_none_iff] at e ⊢
          rw [← r.length]
          exact e
        have h1 : (m :: l).filterMap (fun m => xs[f m]?) = l.filterMap fun m => xs[f m]? := List.filterMap_cons_none (f := fun m => xs[f m]?) e
        have h2 : (m :: l).filterMap (fun m => us[f m]?) = l.filterMap fun m => us[f m]? := List.filterMap_cons_none (f := fun m => us[f m]?) e2
        rw [h1, h2]
        exact ih
      | some d =>
        obtain ⟨v, e2, rv⟩ := r.get e
        have h1 : (m :: l).filterMap (fun m => xs[f m]?) = d :: l.filterMap fun m => xs[f m]? := List.filterMap_cons_some (f := fun m => xs[f m]?) e
        have h2 : (m :: l).filterMap (fun m => us[f m]?) = v :: l.filterMap fun m => us[f m]? := List.filterMap_cons_some (f := fun m => us[f m]?) e2
        rw [h1, h2]
        exact .cons rv ih
  unfold stepBy
  rw [r.length]
  exact pick (fun m => ((Builtin.Slice.sliceAdjust lo hi st (us.length : Int)).1 + (m : Int) * st).toNat) _
/-- by values: the tuple, the parts, the step -/
def rStT (K : PySem.W.Frag) : V → Option Int → Option Int → Option Int → Hp → VK → Prop := fun x lo hi st H Q => ∃ a xs k, x = .ref a ∧ SqT K H a xs ∧ st = some k ∧ k ≠ 0 ∧ k ≠ 1 ∧ (stepBy xs lo hi k).length ≤ sizeLine ∧ ∀ p, H p = none → Q (.ref p) (upd H p (.tup (stepBy xs lo hi k)))
def tSlS (r : V → Option Int → Option Int → Option Int → Hp → VK → Prop) (te : TE) (tl th ts : TO) : TE := fun σ H Q => te σ H fun x H1 => tl σ H1 fun l H2 => th σ H2 fun u H3 => ts σ H3 fun k H4 => r x l u k H4 Q
section
variable {X : Cx} {e st : Expr} {te : TE} {lo hi : Option Expr} {tl th ts : TO} {pos p2 : Pos}
theorem pe_sliceS (he : PE X e te) (hl : PO X lo tl) (hu : PO X hi th) (hst : PO X (some st) ts) : PE X (.Subscript e (.Slice lo hi (some st) p2) pos) (tSlS (rStT X.K) te tl th ts) := by
  refine ⟨fun pins s σ H Q I h => Subscript_ (thn (he.run pins s σ H _ I h) fun v s1 ⟨x, H1, I1, r1, q1⟩ => ?_)⟩
  refine wpAny_Slice (thn (hl.run pins s1 σ H1 _ I1 q1) fun vl s2 ⟨l, H2, I2, pl, q2⟩ => thn (hu.run pins s2 σ H2 _ I2 q2) fun vu s3 ⟨u, H3, I3, pu, q3⟩ => thn (hst.run pins s3 σ H3 _ I3 q3) fun vk s4 ⟨k, H4, I4, pk, q4⟩ => ?_)
  obtain ⟨a, xs, k', rfl, hx, rfl, k0, k1, hz, q⟩ := q4
  cases r1
  cases pk with
  | int _ t =>
    have I5 : Inv X pins σ H4 { s4 with heap := s4.heap.push { cls := .type "slice", data := .fields #[vl, vu, .int k' t] } } := I4.kept (t' := s4.toks) fun b ob q => Heap.get?_push_of_some _ q
    obtain ⟨its, r, ht, hzz⟩ := I5.tuple hx
    show wpAny (model X.prog X.w) X.A (subscriptTail e (.Slice lo hi (some st) p2) (.ref a) (.ref s4.heap.objs.size)) (EP X pins σ Q) X.xe { s4 with heap := s4.heap.push { cls := .type "slice", data := .fields #[vl, vu, .int k' t] } }
    have rs := stepBy_vals (lo := l) (hi := u) (st := k') r
    refine tail_any (ops := [.ref a, .ref s4.heap.objs.size]) ht.typeIs PyProof.Rows.slot_tuple_getitem.lookup (getItem_tuple_step ht (Heap.IsSliceOf.new ..) k0 k1 pl pu (by rw [← rs.length]; exact hz) ?_) (by with_unfolding_all rfl)
    have fr := I5.hok.fresh (Nat.le_refl _)
    exact ⟨.ref _, _, I5.laid (t' := s4.toks) (o := .tup (stepBy xs l u k')) (fun b ob q => Heap.get?_push_of_some _ q) (Nat.le_refl _) ⟨hz, _, rs, IsTup.new _ _⟩, rfl, q _ fr⟩
end
end FL
set_option Elab.async false
set_option linter.all false
set_option maxRecDepth 100000
set_option maxHeartbeats 2000000
namespace FL
open PySem PySem.Spec L2
open PyProof.Rows hiding St
theorem tup_mul_same (l : Addr) (items : Array Value) (n : Nat) (dd : Option Addr) (sl : Array (Option Value)) (x : Int) (u : Tok) (c0 : (decide (x < -(2 ^ 63)) || decide (x ≥ 2 ^ 63)) = false) (c1 : (items.isEmpty || x == 1) = true) :
    Meets (Builtin.«tuple.__mul__» ⟨[.ref l, .int x u], []⟩) (fun _ R s => s.heap.get? l = some { cls := .type "tuple", dict := dd, data := .seq items n, slots := sl } ∧ R (.ok (.ret (Value.ref l))) s) := by
  refine .of_wp fun prog w A R s h => ?_
  obtain ⟨hp, g, d, tk, os⟩ := s
  obtain ⟨hl, h⟩ := h
  have ix := AutoSeq1.idx_int
  wp_walk using wpAny_loadPart' hl
  repeat (first
    | (refine wpAny_ite_false (decide_eq_false (by rw [c0]; exact Bool.false_ne_true)) ?_; wp_walk using wpAny_loadPart' hl)
    | (refine wpAny_ite_true (decide_eq_true c1) ?_; wp_walk using wpAny_loadPart' hl))
  exact ⟨_, rfl, h⟩
theorem tup_mul_none (l : Addr) (items : Array Value) (n : Nat) (dd : Option Addr) (sl : Array (Option Value)) (x : Int) (u : Tok) (c0 : (decide (x < -(2 ^ 63)) || decide (x ≥ 2 ^ 63)) = false) (c1 : (items.isEmpty || x == 1) = false) (c2 : (decide (x ≤ 0) || items.isEmpty) = true) :
    Meets (Builtin.«tuple.__mul__» ⟨[.ref l, .int x u], []⟩) (fun _ R s => s.heap.get? l = some { cls := .type "tuple", dict := dd, data := .seq items n, slots := sl } ∧
      R (.ok (.ret (Value.ref s.heap.objs.size))) { s with heap := s.heap.push { cls := Value.type "tuple", data := Data.seq #[] }, toks := s.toks }) := by
  refine .of_wp fun prog w A R s h => ?_
  obtain ⟨hp, g, d, tk, os⟩ := s
  obtain ⟨hl, h⟩ := h
  have ix := AutoSeq1.idx_int
  wp_walk using wpAny_loadPart' hl
  repeat (first
    | (refine wpAny_ite_false (decide_eq_false (by rw [c0]; exact Bool.false_ne_true)) ?_; wp_walk using wpAny_loadPart' hl)
    | (refine wpAny_ite_false (decide_eq_false (by rw [c1]; exact Bool.false_ne_true)) ?_; wp_walk using wpAny_loadPart' hl)
    | (refine wpAny_ite_true (decide_eq_true c2) ?_; wp_walk using wpAny_loadPart' hl))
  exact ⟨_, rfl, h⟩
/-- t * k, k at most 1: t itself, or a new empty one -/
def rRepS (K : PySem.W.Frag) : R2 := fun x y H Q => ∃ l k xs, x = .ref l ∧ y = .int k ∧ SqT K H l xs ∧ k ≤ 1 ∧ -(2 ^ 63) ≤ k ∧
  (xs = [] ∨ k = 1 → Q (.ref l) H) ∧ (xs ≠ [] → k ≤ 0 → ∀ p, H p = none → Q (.ref p) (upd H p (.tup [])))
theorem op_repS {X : Cx} : OpR X (binaryOp .Mult) (rRepS X.K) := by
  intro pins s σ H x y v u Q I rx ry h
  obtain ⟨l, k, xs, rfl, rfl, hT, h1, h2, q1, q2⟩ := h
  cases rx
  obtain ⟨t, rfl⟩ := ry
  obtain ⟨its, r, ⟨⟨cls, dd, data, sl⟩, ho, hc, n, hd⟩, hs⟩ := I.tuple hT
  simp only at hc hd
  subst hc hd
  have hle := r.length
  have c0 : (decide (k < -(2 ^ 63)) || decide (k ≥ 2 ^ 63)) = false := by
    rw [decide_eq_false (by omega), decide_eq_false (by omega)]
    rfl
  have emp : its.toArray.isEmpty = decide (xs = []) := by
    cases its with
    | nil =>
      cases xs with
      | nil => rfl
      | cons a b => simp at hle
    | cons a b =>
      cases xs with
      | nil => simp at hle
      | cons c d => rfl
  refine wpAny_binaryOp_repeat_ref (T := "tuple") (U := "int") (by decide) ⟨_, ho, rfl⟩ (fun s' => typeIs_int s' k t) noFill_tuple_mul F.fills_int_mul F.slot_int_rmul repeat_tuple F.slot_int_index.lookup
    (call_meets F.slot_int_rmul (typeIs_int s k t) F.entry_int_rmul (F.args_int_rmul_2 _ _) (int_rmul_tuple k t l its.toArray n dd sl) ⟨ho, rfl, ⟨_, ho, rfl⟩, ?_⟩)
  by_cases c : xs = [] ∨ k = 1
  · refine call_meets F.slot_tuple_mul ⟨_, ho, rfl⟩ F.entry_tuple_mul (F.args_tuple_mul_2 _ _) (tup_mul_same l its.toArray n dd sl k t c0 ?_) ⟨ho, ⟨.ref l, H, I, rfl, q1 c⟩⟩
    rw [emp]
    rcases c with c | c
    · rw [decide_eq_true c]; rfl
    · rw [c]; simp
  · have cx : xs ≠ [] := fun z => c (.inl z)
    have ck : k ≠ 1 := fun z => c (.inr z)
    refine call_meets F.slot_tuple_mul ⟨_, ho, rfl⟩ F.entry_tuple_mul (F.args_tuple_mul_2 _ _) (tup_mul_none l its.toArray n dd sl k t c0 ?_ ?_) ⟨ho, ?_⟩
    · rw [emp, decide_eq_false cx, Bool.false_or]
      exact beq_eq_false_iff_ne.mpr ck
    · rw [decide_eq_true (show k ≤ 0 by omega)]
      rfl
    · refine ⟨.ref s.heap.objs.size, _, I.laid (t' := s.toks) (o := .tup []) (fun b ob q => Heap.get?_push_of_some _ q) (Nat.le_refl _) ?_, rfl, q2 cx (by omega) _ (I.hok.fresh (Nat.le_refl _))⟩
      exact ⟨Nat.zero_le _, [], .nil, IsTup.new _ _⟩
end FL
set_option Elab.async false
set_option linter.all false
set_option maxRecDepth 100000
set_option maxHeartbeats 2000000
namespace FL
open PySem PySem.Spec L2
open PyProof.Rows hiding St
/-- a pure operation of two data -/
def rP2 (K : PySem.W.Frag) (mg : Str → Option Value) (φ : D → D → Option W) : R2 := fun x y H Q =>
  ∃ G a b w, SubH G H ∧ RH K mg H G a x ∧ RH K mg H G b y ∧ φ a b = some w ∧ ∀ v H' G', Al K mg H G H' G' v w → Q v H'
def rP1 (K : PySem.W.Frag) (mg : Str → Option Value) (φ : D → Option W) : V → Hp → VK → Prop := fun x H Q =>
  ∃ G a w, SubH G H ∧ RH K mg H G a x ∧ φ a = some w ∧ ∀ v H' G', Al K mg H G H' G' v w → Q v H'
def RHs (K : PySem.W.Frag) (mg : Str → Option Value) (H G : Hp) : List D → List V → Prop
  | [], [] => True
  | d :: ds, v :: vs => RH K mg H G d v ∧ RHs K mg H G ds vs
  | _, _ => False
def rPn (K : PySem.W.Frag) (mg : Str → Option Value) (φ : List D → Option W) : List V → Hp → VK → Prop := fun xs H Q =>
  ∃ G ds w, SubH G H ∧ RHs K mg H G ds xs ∧ φ ds = some w ∧ ∀ v H' G', Al K mg H G H' G' v w → Q v H'
def liftM {α : Type} (o : Option α) : M α := fun ρ => match o with
  | some a => .ok a ρ
  | none => .bad
def op2 (φ : D → D → Option W) (x y : A) : M W := fun ρ => match x.res ρ, y.res ρ with
  | some a, some b => liftM (φ a b) ρ
  | _, _ => .bad
def op1 (φ : D → Option W) (x : A) : M W := fun ρ => match x.res ρ with
  | some a => liftM (φ a) ρ
  | _ => .bad
def resAll (ρ : Rho) : List A → Option (List D)
  | [] => some []
  | a :: as => match a.res ρ, resAll ρ as with
    | some x, some xs => some (x :: xs)
    | _, _ => none
def opn (φ : List D → Option W) (xs : List A) : M W := fun ρ => match resAll ρ xs with
  | some ds => liftM (φ ds) ρ
  | none => .bad
section
variable {K : PySem.W.Frag} {mg : Str → Option Value} {Wx : WX} {σ : St} {ρ : Rho} {H G : Hp} {Q : VK} {x y : V} {a b : A}
theorem op2_go {φ : D → D → Option W} (R : Rel K mg σ ρ H G) (ra : RAt K mg σ G x a) (rb : RAt K mg σ G y b) (h : GoE K mg Wx σ ρ H G (op2 φ a b ρ) Q) : rP2 K mg φ x y H Q := by
  unfold op2 at h
  split at h
  · rename_i da db ea eb
    unfold liftM at h
    split at h
    · rename_i w e
      exact ⟨G, da, db, w, R.sub, ra.read R ea, rb.read R eb, e, fun v H' G' al => GoE.al R al h⟩
    · exact h.elim
  · exact h.elim
theorem op1_go {φ : D → Option W} (R : Rel K mg σ ρ H G) (ra : RAt K mg σ G x a) (h : GoE K mg Wx σ ρ H G (op1 φ a ρ) Q) : rP1 K mg φ x H Q := by
  unfold op1 at h
  split at h
  · rename_i da ea
    unfold liftM at h
    split at h
    · rename_i w e
      exact ⟨G, da, w, R.sub, ra.read R ea, e, fun v H' G' al => GoE.al R al h⟩
    · exact h.elim
  · exact h.elim
theorem resAll_read (R : Rel K mg σ ρ H G) : ∀ {vs : List V} {as : List A} {ds : List D}, RAs K mg σ G vs as → resAll ρ as = some ds → RHs K mg H G ds vs
  | [], [], ds, _, e => by
    have e' : ([] : List D) = ds := Option.some.inj e
    subst e'
    exact True.intro
  | v :: vs, a :: as, ds, ⟨h, t⟩, e => by
    unfold resAll at e
    split at e
    · rename_i z zs e1 e2
      have e' := Option.some.inj e
      subst e'
      exact ⟨h.read R e1, resAll_read R t e2⟩
    · cases e
  | [], _ :: _, _, h, _ => h.elim
  | _ :: _, [], _, h, _ => h.elim
theorem opn_go {φ : List D → Option W} {vs : List V} {as : List A} (R : Rel K mg σ ρ H G) (ra : RAs K mg σ G vs as) (h : GoE K mg Wx σ ρ H G (opn φ as ρ) Q) : rPn K mg φ vs H Q := by
  unfold opn at h
  split at h
  · rename_i ds e
    unfold liftM at h
    split at h
    · rename_i w ew
      exact ⟨G, ds, w, R.sub, resAll_read R ra e, ew, fun v H' G' al => GoE.al R al h⟩
    · exact h.elim
  · exact h.elim
end
def sizeOk (n : Nat) : Bool := decide (n ≤ 16777216)
theorem sizeOk_le {n : Nat} (h : sizeOk n = true) : n ≤ sizeLine := by
  rw [sizeLine_eq]
  exact of_decide_eq_true h
def addW : D → D → Option W
  | .int a, .int b => some (.d (.int (a + b)))
  | .str a, .str b => if sizeOk (a.length + b.length) = true then some (.d (.str (a ++ b))) else none
  | .lst a, .lst b => if sizeOk (a.length + b.length) = true then some (.own (.lst (a ++ b))) else none
  | .tup a, .tup b => if sizeOk (a.length + b.length) = true then some (.d (.tup (a ++ b))) else none
  | _, _ => none
def subW : D → D → Option W
  | .int a, .int b => some (.d (.int (a - b)))
  | _, _ => none
def bitsOk (a b : Int) : Bool := decide ((Builtin.Int.intBits a : Int) + (Builtin.Int.intBits b : Int) ≤ 134217728)
theorem bitsOk_le {a b : Int} (h : bitsOk a b = true) : (Builtin.Int.intBits a : Int) + (Builtin.Int.intBits b : Int) ≤ 134217728 := of_decide_eq_true h
def mulW : D → D → Option W
  | .int a, .int b => if bitsOk a b = true then some (.d (.int (a * b))) else none
  | .lst a, .int k => if (decide (-(2 ^ 63) ≤ k ∧ k < 2 ^ 63) && sizeOk (a.length * k.toNat)) = true then some (.own (.lst (List.replicate k.toNat a).flatten)) else none
  | .tup a, .int k => if decide (-1000 ≤ k ∧ k ≤ 1000 ∧ a.length ≤ 1000 ∧ (2 ≤ k → 0 < a.length)) = true then some (.d (.tup (List.replicate k.toNat a).flatten)) else none
  | _, _ => none
def fdivW : D → D → Option W
  | .int a, .int b => if (!decide (b = 0) && !Builtin.divisionGoesByPylong a b) = true then some (.d (.int (a.fdiv b))) else none
  | _, _ => none
def modW : D → D → Option W
  | .int a, .int b => if decide (b = 0) = true then none else some (.d (.int (a.fmod b)))
  | _, _ => none
def powW : D → D → Option W
  | .int a, .int b => if decide (0 ≤ b ∧ b ≤ 1000000 ∧ a.natAbs < 2 ^ 64) = true then some (.d (.int (a ^ b.toNat))) else none
  | _, _ => none
def binW : Operator → D → D → Option W
  | .Add => addW
  | .Sub => subW
  | .Mult => mulW
  | .FloorDiv => fdivW
  | .Mod => modW
  | .Pow => powW
  | _ => fun _ _ => none
section
variable {X : Cx} {Wx : WX} {e a b c : Expr} {pos : Pos} {m : M W} {ma mb mc : M A}
theorem op_addP : OpR X (binaryOp .Add) (rP2 X.K X.mg addW) := by
  intro pins s σ H x y v u Q I rx ry h
  obtain ⟨G, a, b, w, sub, ra, rb, e, k⟩ := h
  unfold addW at e
  split at e
  · have e' := Option.some.inj e
    subst e'
    cases (show x = .int _ from ra)
    cases (show y = .int _ from rb)
    exact op_add pins s σ H _ _ v u Q I rx ry ⟨_, _, rfl, rfl, k _ H G (Al.here sub rfl)⟩
  · split at e
    · rename_i hs
      have e' := Option.some.inj e
      subst e'
      cases (show x = .str _ from ra)
      cases (show y = .str _ from rb)
      exact op_add_str pins s σ H _ _ v u Q I rx ry ⟨_, _, rfl, rfl, sizeOk_le hs, k _ H G (Al.here sub rfl)⟩
    · cases e
  · split at e
    · rename_i hs
      have e' := Option.some.inj e
      subst e'
      obtain ⟨p, xs, ex, hp, rxs⟩ := ra
      obtain ⟨q, ys, ey, hq, rys⟩ := rb
      subst ex ey
      have l1 := rxs.length
      have l2 := rys.length
      exact op_cat pins s σ H _ _ v u Q I rx ry ⟨p, q, xs, ys, rfl, rfl, hp, hq, by rw [← l1, ← l2]; exact sizeOk_le hs, fun r hr => k _ _ _ (Al.lst sub hr (rxs.append rys))⟩
    · cases e
  · split at e
    · rename_i hs
      have e' := Option.some.inj e
      subst e'
      obtain ⟨p, xs, ex, hp, rxs⟩ := ra
      obtain ⟨q, ys, ey, hq, rys⟩ := rb
      subst ex ey
      have l1 := rxs.length
      have l2 := rys.length
      refine op_catA pins s σ H _ _ v u Q I rx ry ⟨p, q, xs, ys, rfl, rfl, sqT_mono sub hp, sqT_mono sub hq, by rw [← l1, ← l2]; exact sizeOk_le hs, fun z => ?_, fun z1 z2 => ?_, fun _ _ r hr => k _ _ _ (Al.tup sub hr (rxs.append rys))⟩
      · exact k _ H G (Al.here sub ⟨q, ys, rfl, hq, by have := rxs.append rys; rw [z] at this; exact this⟩)
      · exact k _ H G (Al.here sub ⟨p, xs, rfl, hp, by have := rxs.append rys; rw [z2, List.append_nil] at this; exact this⟩)
    · cases e
  · cases e
theorem op_subP : OpR X (binaryOp .Sub) (rP2 X.K X.mg subW) := by
  intro pins s σ H x y v u Q I rx ry h
  obtain ⟨G, a, b, w, sub, ra, rb, e, k⟩ := h
  unfold subW at e
  split at e
  · have e' := Option.some.inj e
    subst e'
    cases (show x = .int _ from ra)
    cases (show y = .int _ from rb)
    exact op_sub pins s σ H _ _ v u Q I rx ry ⟨_, _, rfl, rfl, k _ H G (Al.here sub rfl)⟩
  · cases e
theorem op_mulP : OpR X (binaryOp .Mult) (rP2 X.K X.mg mulW) := by
  intro pins s σ H x y v u Q I rx ry h
  obtain ⟨G, a, b, w, sub, ra, rb, e, k⟩ := h
  unfold mulW at e
  split at e
  · split at e
    · rename_i hs
      have e' := Option.some.inj e
      subst e'
      cases (show x = .int _ from ra)
      cases (show y = .int _ from rb)
      have hs' := bitsOk_le hs
      exact op_mulX pins s σ H _ _ v u Q I rx ry ⟨_, _, rfl, rfl, hs', k _ H G (Al.here sub rfl)⟩
    · cases e
  · split at e
    · rename_i hs
      have e' := Option.some.inj e
      subst e'
      rw [Bool.and_eq_true] at hs
      obtain ⟨h1, h2⟩ := hs
      obtain ⟨h3, h4⟩ := of_decide_eq_true h1
      obtain ⟨p, xs, ex, hp, rxs⟩ := ra
      subst ex
      cases (show y = .int _ from rb)
      have l1 := rxs.length
      have rep : ∀ n, RVs X.K X.mg G (List.replicate n _).flatten (List.replicate n xs).flatten := fun n => by
        induction n with
        | zero => exact rfl
        | succ n ih => rw [List.replicate_succ, List.replicate_succ, List.flatten_cons, List.flatten_cons]; exact rxs.append ih
      exact op_rep pins s σ H _ _ v u Q I rx ry ⟨p, _, xs, rfl, rfl, hp, h3, h4, by rw [← l1]; exact sizeOk_le h2, fun r hr => k _ _ _ (Al.lst sub hr (rep _))⟩
    · cases e
  · split at e
    · rename_i ds kk hs
      have e' := Option.some.inj e
      subst e'
      obtain ⟨h1, h2, h3, h4⟩ := of_decide_eq_true hs
      obtain ⟨p, xs, ex, hp, rxs⟩ := ra
      subst ex
      cases (show y = .int _ from rb)
      have l1 := rxs.length
      have rep : ∀ n, RVs X.K X.mg G (List.replicate n ds).flatten (List.replicate n xs).flatten := fun n => by
        induction n with
        | zero => exact rfl
        | succ n ih => rw [List.replicate_succ, List.replicate_succ, List.flatten_cons, List.flatten_cons]; exact rxs.append ih
      by_cases c : kk ≤ 1
      · refine op_repS pins s σ H _ _ v u Q I rx ry ⟨p, _, xs, rfl, rfl, sqT_mono sub hp, c, by omega, fun z => k _ H G (Al.here sub ⟨p, xs, rfl, hp, ?_⟩), fun z1 z2 q hq => ?_⟩
        · rcases z with z | z
          · subst z
            have d0 : ds = [] := by
              cases ds with
              | nil => rfl
              | cons a b => simp at l1
            rw [d0]
            have fl : ∀ n : Nat, (List.replicate n ([] : List D)).flatten = [] := fun n => by simp
            rw [fl]
            exact rfl
          · rw [z]
            have : (List.replicate (1 : Int).toNat ds).flatten = ds := by simp
            rw [this]
            exact rxs
        · have e0 : kk.toNat = 0 := by omega
          have := rep 0
          refine k _ _ _ (Al.tup sub hq ?_)
          rw [e0]
          exact this
      · by_cases cx : xs = []
        · subst cx
          have d0 : ds = [] := by
            cases ds with
            | nil => rfl
            | cons a b => simp at l1
          subst d0
          exact absurd (h4 (by omega)) (by simp)
        · exact op_repT pins s σ H _ _ v u Q I rx ry ⟨p, _, xs, rfl, rfl, sqT_mono sub hp, cx, by omega, h2, by rw [← l1]; exact h3, fun q hq => k _ _ _ (Al.tup sub hq (rep _))⟩
    · cases e
  · cases e
theorem op_fdivP : OpR X (binaryOp .FloorDiv) (rP2 X.K X.mg fdivW) := by
  intro pins s σ H x y v u Q I rx ry h
  obtain ⟨G, a, b, w, sub, ra, rb, e, k⟩ := h
  unfold fdivW at e
  split at e
  · split at e
    · rename_i i j hs
      have e' := Option.some.inj e
      subst e'
      rw [Bool.and_eq_true] at hs
      obtain ⟨h1, h2⟩ := hs
      have h1' : j ≠ 0 := by simpa using h1
      have h2' : Builtin.divisionGoesByPylong i j = false := by simpa using h2
      cases (show x = .int _ from ra)
      cases (show y = .int _ from rb)
      obtain ⟨t, rfl⟩ := rx
      obtain ⟨t', rfl⟩ := ry
      exact floordiv_int h1' ⟨.int (i.fdiv j), H, I.tok _, ⟨_, rfl⟩, k _ H G (Al.here sub rfl)⟩ (.inl h2')
    · cases e
  · cases e
theorem op_modP : OpR X (binaryOp .Mod) (rP2 X.K X.mg modW) := by
  intro pins s σ H x y v u Q I rx ry h
  obtain ⟨G, a, b, w, sub, ra, rb, e, k⟩ := h
  unfold modW at e
  split at e
  · split at e
    · cases e
    · rename_i hs
      have e' := Option.some.inj e
      subst e'
      cases (show x = .int _ from ra)
      cases (show y = .int _ from rb)
      exact op_modN pins s σ H _ _ v u Q I rx ry ⟨_, _, rfl, rfl, by simpa using hs, k _ H G (Al.here sub rfl)⟩
  · cases e
theorem op_powP : OpR X (binaryOp .Pow) (rP2 X.K X.mg powW) := by
  intro pins s σ H x y v u Q I rx ry h
  obtain ⟨G, a, b, w, sub, ra, rb, e, k⟩ := h
  unfold powW at e
  split at e
  · split at e
    · rename_i hs
      have e' := Option.some.inj e
      subst e'
      cases (show x = .int _ from ra)
      cases (show y = .int _ from rb)
      have hs' := of_decide_eq_true hs
      exact op_pow pins s σ H _ _ v u Q I rx ry ⟨_, _, rfl, rfl, hs', k _ H G (Al.here sub rfl)⟩
    · cases e
  · cases e
theorem op_binP : ∀ op : Operator, OpR X (binaryOp op) (rP2 X.K X.mg (binW op))
  | .Add => op_addP
  | .Sub => op_subP
  | .Mult => op_mulP
  | .FloorDiv => op_fdivP
  | .Mod => op_modP
  | .Pow => op_powP
  | .Div => fun _ _ _ _ _ _ _ _ _ _ _ _ ⟨_, _, _, _, _, _, _, e, _⟩ => nomatch e
  | .MatMult => fun _ _ _ _ _ _ _ _ _ _ _ _ ⟨_, _, _, _, _, _, _, e, _⟩ => nomatch e
  | .LShift => fun _ _ _ _ _ _ _ _ _ _ _ _ ⟨_, _, _, _, _, _, _, e, _⟩ => nomatch e
  | .RShift => fun _ _ _ _ _ _ _ _ _ _ _ _ ⟨_, _, _, _, _, _, _, e, _⟩ => nomatch e
  | .BitOr => fun _ _ _ _ _ _ _ _ _ _ _ _ ⟨_, _, _, _, _, _, _, e, _⟩ => nomatch e
  | .BitXor => fun _ _ _ _ _ _ _ _ _ _ _ _ ⟨_, _, _, _, _, _, _, e, _⟩ => nomatch e
  | .BitAnd => fun _ _ _ _ _ _ _ _ _ _ _ _ ⟨_, _, _, _, _, _, _, e, _⟩ => nomatch e
def binM (op : Operator) (ma mb : M A) : M W := fun ρ => (ma ρ).bind fun x ρ => (mb ρ).bind fun y ρ => op2 (binW op) x y ρ
/-- two operands, then an operation -/
theorem two_go {K : PySem.W.Frag} {mg : Str → Option Value} {ma mb : M A} {φ : D → D → Option W} {σ : St} {H : Hp} {Q : VK} (h : tM K mg Wx (fun ρ => (ma ρ).bind fun x ρ => (mb ρ).bind fun y ρ => op2 φ x y ρ) σ H Q) :
    tOp (rP2 K mg φ) (tA K mg Wx ma) (tA K mg Wx mb) σ H Q := by
  obtain ⟨ρ, G, R, h⟩ := h
  refine tA_mono (tA_bind R h) fun v H1 ⟨x, ρ1, G1, R1, rv, F1, k⟩ => ?_
  refine tA_mono (tA_bind R1 k) fun u H2 ⟨y, ρ2, G2, R2, ru, F2, k2⟩ => ?_
  exact op2_go R2 (rv.mono F2.grow) ru k2
theorem pm_bin {op : Operator} (ha : PMA X Wx a ma) (hb : PMA X Wx b mb) : PM X Wx (.BinOp a op b pos) (binM op ma mb) := peImp (pe_op (op_binP op) ha hb) fun σ H Q h => two_go h
def negW : D → Option W
  | .int a => some (.d (.int (-a)))
  | _ => none
theorem un_negP : UnR X (unaryOp .USub) (rP1 X.K X.mg negW) := by
  intro pins s σ H x v Q I rx h
  obtain ⟨G, a, w, sub, ra, e, k⟩ := h
  unfold negW at e
  split at e
  · have e' := Option.some.inj e
    subst e'
    cases (show x = .int _ from ra)
    exact un_neg pins s σ H _ v Q I rx ⟨_, rfl, k _ H G (Al.here sub rfl)⟩
  · cases e
theorem one_go {K : PySem.W.Frag} {mg : Str → Option Value} {ma : M A} {φ : D → Option W} {σ : St} {H : Hp} {Q : VK} (h : tM K mg Wx (fun ρ => (ma ρ).bind fun x ρ => op1 φ x ρ) σ H Q) :
    tUn (rP1 K mg φ) (tA K mg Wx ma) σ H Q := by
  obtain ⟨ρ, G, R, h⟩ := h
  refine tA_mono (tA_bind R h) fun v H1 ⟨x, ρ1, G1, R1, rv, F1, k⟩ => ?_
  exact op1_go R1 rv k
def negM (ma : M A) : M W := fun ρ => (ma ρ).bind fun x ρ => op1 negW x ρ
theorem pm_neg (ha : PMA X Wx a ma) : PM X Wx (.UnaryOp .USub a pos) (negM ma) := peImp (pe_un un_negP ha) fun σ H Q h => one_go h
def truD : D → Option Bool
  | .non => some false
  | .bl b => some b
  | .int i => some (i != 0)
  | .str x => if sizeOk x.length = true then some ((x.length : Int) != 0) else none
  | .tup xs => some (!xs.isEmpty)
  | .lst xs => some (!xs.isEmpty)
  | .dct xs => some (!xs.isEmpty)
  | _ => none
theorem RVs.isEmpty {K : PySem.W.Frag} {mg : Str → Option Value} {G : Hp} {ds : List D} {xs : List V} (r : RVs K mg G ds xs) : ds.isEmpty = xs.isEmpty := by
  have := r.length
  cases ds with
  | nil =>
    cases xs with
    | nil => rfl
    | cons _ _ => simp at this
  | cons _ _ =>
    cases xs with
    | nil => simp at this
    | cons _ _ => rfl
theorem RKs.isEmpty {K : PySem.W.Frag} {mg : Str → Option Value} {G : Hp} {ds : List (Key × D)} {xs : List (Key × V)} (r : RKs K mg G ds xs) : ds.isEmpty = xs.isEmpty := by
  have := r.length
  cases ds with
  | nil =>
    cases xs with
    | nil => rfl
    | cons _ _ => simp at this
  | cons _ _ =>
    cases xs with
    | nil => simp at this
    | cons _ _ => rfl
theorem truD_ok {K : PySem.W.Frag} {mg : Str → Option Value} {H G : Hp} {d : D} {v : V} {k : Bool} (sub : SubH G H) (r : RH K mg H G d v) (e : truD d = some k) : TruV K v H k := by
  unfold truD at e
  split at e
  · cases e; cases (show v = .non from r); exact rfl
  · cases e; cases (show v = .bl _ from r); exact rfl
  · cases e; cases (show v = .int _ from r); exact rfl
  · split at e
    · rename_i hs
      cases e; cases (show v = .str _ from r); exact ⟨sizeOk_le hs, rfl⟩
    · cases e
  · cases e; obtain ⟨a, xs, rfl, q, t⟩ := r; exact .inr (.inl ⟨xs, sqT_mono sub q, by rw [t.isEmpty]⟩)
  · cases e; obtain ⟨a, xs, rfl, q, t⟩ := r; exact .inl ⟨xs, SqL.of q, by rw [t.isEmpty]⟩
  · cases e; obtain ⟨a, xs, rfl, q, t⟩ := r; exact .inr (.inr ⟨xs, q, by rw [t.isEmpty]⟩)
  · cases e
def truA (x : A) : M Bool := fun ρ => match x.res ρ with
  | some a => liftM (truD a) ρ
  | none => .bad
def testM (ma : M A) : M Bool := fun ρ => (ma ρ).bind truA
/-- an expression as a test -/
theorem pmb_truth (ha : PMA X Wx a ma) (he : ∀ whole, isTrue a X.env whole = (do let v ← whole; standAt a.pos; holding [v] (truthy v))) : PMB X Wx a (testM ma) := by
  refine ptImp (pt_truth ha he) fun σ H Q h => ?_
  obtain ⟨ρ, G, R, h⟩ := h
  refine tA_mono (tA_bindB R h) fun v H1 ⟨x, ρ1, G1, R1, rv, F1, k⟩ => ?_
  unfold truA at k
  split at k
  · rename_i d ed
    unfold liftM at k
    split at k
    · rename_i bb eb
      exact ⟨bb, truD_ok R1.sub (rv.read R1 ed) eb, k H1 G1 R1 Fr.refl⟩
    · exact k.elim
  · exact k.elim
def notM (ma : M A) : M W := fun ρ => (ma ρ).bind fun x ρ => (truA x ρ).bind fun b ρ => .ok (.d (.bl (!b))) ρ
theorem pm_not (ha : PMA X Wx a ma) : PM X Wx (.UnaryOp .Not a pos) (notM ma) := by
  refine peImp (pe_notT ha) fun σ H Q h => ?_
  obtain ⟨ρ, G, R, h⟩ := h
  refine tA_mono (tA_bind R h) fun v H1 ⟨x, ρ1, G1, R1, rv, F1, k⟩ => ?_
  unfold truA at k
  split at k
  · rename_i d ed
    unfold liftM at k
    split at k
    · rename_i bb eb
      exact ⟨bb, truD_ok R1.sub (rv.read R1 ed) eb, k _ H1 G1 R1 Fr.refl ⟨rfl, fun _ _ z => nomatch z⟩⟩
    · exact k.elim
  · exact k.elim
def notB (m : M Bool) : M Bool := fun ρ => (m ρ).bind fun b ρ => .ok (!b) ρ
def andB (m n : M Bool) : M Bool := fun ρ => (m ρ).bind fun b ρ => if b = true then n ρ else .ok false ρ
def orB (m n : M Bool) : M Bool := fun ρ => (m ρ).bind fun b ρ => if b = true then .ok true ρ else n ρ
theorem tB2_bindB {K : PySem.W.Frag} {mg : Str → Option Value} {m : M Bool} {f : Bool → M Bool} {σ : St} {ρ : Rho} {H G : Hp} {Q : Bool → Hp → Prop} (R : Rel K mg σ ρ H G) (h : GoB K mg Wx σ ρ H G ((m ρ).bind f) Q) :
    tB2 K mg Wx m σ H fun b H1 => ∃ ρ1 G1, Rel K mg σ ρ1 H1 G1 ∧ Fr [] σ ρ H G σ ρ1 H1 G1 ∧ GoB K mg Wx σ ρ1 H1 G1 (f b ρ1) Q := by
  refine ⟨ρ, G, R, ?_⟩
  cases e : m ρ with
  | ok w ρ1 => rw [e] at h; exact fun H' G' R' F' => ⟨ρ1, G', R', F', GoB.shift F' h⟩
  | exc c fs ρ1 => rw [e] at h; exact h
  | bad => rw [e] at h; exact h.elim
theorem tB2_bindE {K : PySem.W.Frag} {mg : Str → Option Value} {m : M Bool} {f : Bool → M W} {σ : St} {ρ : Rho} {H G : Hp} {Q : VK} (R : Rel K mg σ ρ H G) (h : GoE K mg Wx σ ρ H G ((m ρ).bind f) Q) :
    tB2 K mg Wx m σ H fun b H1 => ∃ ρ1 G1, Rel K mg σ ρ1 H1 G1 ∧ Fr [] σ ρ H G σ ρ1 H1 G1 ∧ GoE K mg Wx σ ρ1 H1 G1 (f b ρ1) Q := by
  refine ⟨ρ, G, R, ?_⟩
  cases e : m ρ with
  | ok w ρ1 => rw [e] at h; exact fun H' G' R' F' => ⟨ρ1, G', R', F', GoE.shift F' h⟩
  | exc c fs ρ1 => rw [e] at h; exact h
  | bad => rw [e] at h; exact h.elim
/-- a test whatever its whole is -/
abbrev PWB (X : Cx) (Wx : WX) (e : Expr) (m : M Bool) : Prop := PW X e (tB2 X.K X.mg Wx m)
theorem pwImp {e : Expr} {u u' : TT} (h : PW X e u) (w : ∀ σ H Q, u' σ H Q → u σ H Q) : PW X e u' := ⟨fun wh pins s σ H Q I q => h.run wh pins s σ H Q I (w σ H Q q)⟩
theorem pmb_not {m : M Bool} (h : PMB X Wx a m) : PMB X Wx (.UnaryOp .Not a pos) (notB m) := by
  refine ptImp (pt_not h) fun σ H Q h => ?_
  obtain ⟨ρ, G, R, h⟩ := h
  exact tB2_mono (tB2_bindB R h) fun b H1 ⟨ρ1, G1, R1, F1, k⟩ => k H1 G1 R1 Fr.refl
theorem pwb_and1 {m : M Bool} (h : PMB X Wx a m) : PWB X Wx (.BoolOp .And [a] pos) m := pw_and1 h
theorem pwb_or1 {m : M Bool} (h : PMB X Wx a m) : PWB X Wx (.BoolOp .Or [a] pos) m := pw_or1 h
theorem pwb_and {m n : M Bool} {rest : List Expr} (h : PMB X Wx a m) (t : PWB X Wx (.BoolOp .And (b :: rest) pos) n) : PWB X Wx (.BoolOp .And (a :: b :: rest) pos) (andB m n) := by
  refine pwImp (pw_and h t) fun σ H Q h => ?_
  obtain ⟨ρ, G, R, h⟩ := h
  refine tB2_mono (tB2_bindB R h) fun c H1 ⟨ρ1, G1, R1, F1, k⟩ => ?_
  cases c with
  | true => exact iteT ⟨ρ1, G1, R1, k⟩
  | false => exact iteF (k H1 G1 R1 Fr.refl)
theorem pwb_or {m n : M Bool} {rest : List Expr} (h : PMB X Wx a m) (t : PWB X Wx (.BoolOp .Or (b :: rest) pos) n) : PWB X Wx (.BoolOp .Or (a :: b :: rest) pos) (orB m n) := by
  refine pwImp (pw_or h t) fun σ H Q h => ?_
  obtain ⟨ρ, G, R, h⟩ := h
  refine tB2_mono (tB2_bindB R h) fun c H1 ⟨ρ1, G1, R1, F1, k⟩ => ?_
  cases c with
  | true => exact iteT (k H1 G1 R1 Fr.refl)
  | false => exact iteF ⟨ρ1, G1, R1, k⟩
/-- and, or as values -/
def orM (m n : M W) : M W := fun ρ => (m ρ).dat fun x ρ => match truD x with
  | some true => .ok (.d x) ρ
  | some false => n ρ
  | none => .bad
def andM (m n : M W) : M W := fun ρ => (m ρ).dat fun x ρ => match truD x with
  | some true => n ρ
  | some false => .ok (.d x) ρ
  | none => .bad
theorem pm_one {op : BoolOp} (h : PM X Wx a m) : PM X Wx (.BoolOp op [a] pos) m := pe_one h
theorem pm_or {n : M W} {rest : List Expr} (h : PM X Wx a m) (t : PM X Wx (.BoolOp .Or (b :: rest) pos) n) : PM X Wx (.BoolOp .Or (a :: b :: rest) pos) (orM m n) := by
  refine peImp (pe_orT h t) fun σ H Q h => ?_
  obtain ⟨ρ, G, R, h⟩ := h
  refine tM_mono (tM_dat R h) fun v H1 ⟨x, ρ1, G1, R1, rv, F1, k⟩ => ?_
  split at k
  · rename_i e
    exact ⟨true, truD_ok R1.sub (RH.of R1.sub rv) e, iteT (k v H1 G1 R1 Fr.refl ⟨rv, fun _ _ z => nomatch z⟩)⟩
  · rename_i e
    exact ⟨false, truD_ok R1.sub (RH.of R1.sub rv) e, iteF ⟨ρ1, G1, R1, k⟩⟩
  · exact k.elim
theorem pm_and {n : M W} {rest : List Expr} (h : PM X Wx a m) (t : PM X Wx (.BoolOp .And (b :: rest) pos) n) : PM X Wx (.BoolOp .And (a :: b :: rest) pos) (andM m n) := by
  refine peImp (pe_andT h t) fun σ H Q h => ?_
  obtain ⟨ρ, G, R, h⟩ := h
  refine tM_mono (tM_dat R h) fun v H1 ⟨x, ρ1, G1, R1, rv, F1, k⟩ => ?_
  split at k
  · rename_i e
    exact ⟨true, truD_ok R1.sub (RH.of R1.sub rv) e, iteT ⟨ρ1, G1, R1, k⟩⟩
  · rename_i e
    exact ⟨false, truD_ok R1.sub (RH.of R1.sub rv) e, iteF (k v H1 G1 R1 Fr.refl ⟨rv, fun _ _ z => nomatch z⟩)⟩
  · exact k.elim
/-- a if t else b -/
def ifM (t : M Bool) (m n : M W) : M W := fun ρ => (t ρ).bind fun b ρ => if b = true then m ρ else n ρ
theorem pm_if {t : M Bool} {n : M W} (ht : PMB X Wx c t) (ha : PM X Wx a m) (hb : PM X Wx b n) : PM X Wx (.IfExp c a b pos) (ifM t m n) := by
  refine peImp (pe_ifExp ht ha hb) fun σ H Q h => ?_
  obtain ⟨ρ, G, R, h⟩ := h
  refine tB2_mono (tB2_bindE R h) fun k H1 ⟨ρ1, G1, R1, F1, g⟩ => ?_
  cases k with
  | true => exact iteT ⟨ρ1, G1, R1, g⟩
  | false => exact iteF ⟨ρ1, G1, R1, g⟩
def tupM (m : M (List D)) : M W := fun ρ => (m ρ).bind fun ds ρ => if sizeOk ds.length = true then .ok (.d (.tup ds)) ρ else .bad
def lstM (m : M (List D)) : M W := fun ρ => (m ρ).bind fun ds ρ => if sizeOk ds.length = true then .ok (.own (.lst ds)) ρ else .bad
theorem pm_tup {es : List Expr} {m : M (List D)} {k : Nat} (h : PML X Wx es m) : PM X Wx (.Tuple es k pos) (tupM m) := by
  refine peImp (pe_tup h) fun σ H Q h => ?_
  obtain ⟨ρ, G, R, h⟩ := h
  refine tL_mono (tL_bind R h) fun vs H1 ⟨ds, ρ1, G1, R1, rv, F1, k⟩ => ?_
  split at k
  · rename_i hs
    exact ⟨by rw [← rv.length]; exact sizeOk_le hs, fun p hp => GoE.al R1 (Al.tup R1.sub hp rv) k⟩
  · exact k.elim
theorem pm_lst {es : List Expr} {m : M (List D)} (h : PML X Wx es m) : PM X Wx (.List es pos) (lstM m) := by
  refine peImp (pe_lst h) fun σ H Q h => ?_
  obtain ⟨ρ, G, R, h⟩ := h
  refine tL_mono (tL_bind R h) fun vs H1 ⟨ds, ρ1, G1, R1, rv, F1, k⟩ => ?_
  split at k
  · rename_i hs
    exact ⟨by rw [← rv.length]; exact sizeOk_le hs, fun p hp => GoE.al R1 (Al.lst R1.sub hp rv) k⟩
  · exact k.elim
def dct0M : M W := fun ρ => .ok (.own (.dct [])) ρ
theorem pm_dct0 : PM X Wx (.Dict [] [] pos) dct0M := by
  refine peImp pe_dnewK fun σ H Q h => ?_
  obtain ⟨ρ, G, R, h⟩ := h
  exact fun p hp => GoE.al R (Al.dct (ds := []) R.sub hp rfl) h
end
end FL
set_option Elab.async false
set_option linter.all false
set_option maxRecDepth 100000
set_option maxHeartbeats 2000000
namespace FL
open PySem PySem.Spec L2
open PyProof.Rows hiding St
def keyPy : Key → PyData
  | .inl i => .int i
  | .inr x => .str x
mutual
def toPy : D → Option PyData
  | .non => some .none
  | .bl b => some (.bool b)
  | .int i => some (.int i)
  | .str x => some (.str x)
  | .tup xs => (toPys xs).map .tuple
  | .lst xs => (toPys xs).map .list
  | .dct kvs => (toPyk kvs).map .dict
  | _ => none
def toPys : List D → Option (List PyData)
  | [] => some []
  | d :: ds => match toPy d, toPys ds with
    | some p, some ps => some (p :: ps)
    | _, _ => none
def toPyk : List (Key × D) → Option (List (PyData × PyData))
  | [] => some []
  | (k, d) :: ds => match toPy d, toPyk ds with
    | some p, some ps => some ((keyPy k, p) :: ps)
    | _, _ => none
end
mutual
/-- no list within -/
def noLst : PyData → Bool
  | .list _ => false
  | .tuple xs => noLsts xs
  | .dict kvs => noLstk kvs
  | _ => true
def noLsts : List PyData → Bool
  | [] => true
  | x :: xs => noLst x && noLsts xs
def noLstk : List (PyData × PyData) → Bool
  | [] => true
  | (_, x) :: xs => noLst x && noLstk xs
end
theorem toPys_cons {d : D} {ds : List D} {ps : List PyData} (h : toPys (d :: ds) = some ps) : ∃ p qs, ps = p :: qs ∧ toPy d = some p ∧ toPys ds = some qs := by
  unfold toPys at h
  split at h
  · rename_i p qs e1 e2
    exact ⟨p, qs, (Option.some.inj h).symm, e1, e2⟩
  · cases h
theorem toPyk_cons {k : Key} {d : D} {ds : List (Key × D)} {ps : List (PyData × PyData)} (h : toPyk ((k, d) :: ds) = some ps) : ∃ p qs, ps = (keyPy k, p) :: qs ∧ toPy d = some p ∧ toPyk ds = some qs := by
  unfold toPyk at h
  split at h
  · rename_i p qs e1 e2
    exact ⟨p, qs, (Option.some.inj h).symm, e1, e2⟩
  · cases h
section
variable {X : Cx} {pins : List (Addr × Obj)} {σ : St} {H G : Hp} {s : Shared}
theorem keys_read : ∀ {es : List DictEntry} {kvs : List (Key × Value)}, Pairs (mixKind X.prog X.w) es kvs → ∃ as, ReadsAll s.heap (es.map (·.key)) (kvs.map fun p => keyPy p.1) as ∧ as = []
  | _, _, .nil => ⟨_, ReadsAll.nil, rfl⟩
  | _, _, .cons (e := e) (kv := kv) hk _ t => by
    obtain ⟨as, r, ea⟩ := keys_read t
    rcases keyIs_shape (k := kv.1) (v := e.key) hk with ⟨i, t', h1, h2⟩ | ⟨z, t', h1, h2⟩
    · refine ⟨[] ++ as, ReadsAll.cons ?_ r, by rw [ea]; rfl⟩
      show Reads s.heap e.key (keyPy kv.1) []
      rw [h2, h1]
      exact Reads.int i t'
    · refine ⟨[] ++ as, ReadsAll.cons ?_ r, by rw [ea]; rfl⟩
      show Reads s.heap e.key (keyPy kv.1) []
      rw [h2, h1]
      exact Reads.str z t'
mutual
theorem RV.reads (I : Inv X pins σ H s) (sub : SubH G H) : ∀ (d : D) (p : PyData) (v : V) (u : Value), toPy d = some p → RV X.K X.mg G d v → RelV v u → ∃ as, Reads s.heap u p as ∧ (noLst p = true → sysModules ∉ as)
  | .non, p, v, u, e, r, q => by
    have e' : PyData.none = p := Option.some.inj e
    subst e'
    cases (show v = .non from r)
    cases q
    exact ⟨_, Reads.none, fun _ z => nomatch z⟩
  | .bl b, p, v, u, e, r, q => by
    have e' : PyData.bool b = p := Option.some.inj e
    subst e'
    cases (show v = .bl b from r)
    cases q
    exact ⟨_, Reads.bool b, fun _ z => nomatch z⟩
  | .int i, p, v, u, e, r, q => by
    have e' : PyData.int i = p := Option.some.inj e
    subst e'
    cases (show v = .int i from r)
    obtain ⟨t, rfl⟩ := q
    exact ⟨_, Reads.int i t, fun _ z => nomatch z⟩
  | .str x, p, v, u, e, r, q => by
    have e' : PyData.str x = p := Option.some.inj e
    subst e'
    cases (show v = .str x from r)
    obtain ⟨t, rfl⟩ := q
    exact ⟨_, Reads.str x t, fun _ z => nomatch z⟩
  | .tup ds, p, v, u, e, r, q => by
    obtain ⟨ps, e1, e2⟩ := Option.map_eq_some_iff.mp (show (toPys ds).map PyData.tuple = some p from e)
    subst e2
    obtain ⟨a, xs, rfl, hq, rs⟩ := r
    cases q
    obtain ⟨its, rv, ⟨o, ho, hc, n, hd⟩, _⟩ := I.tuple (sqT_mono sub hq)
    obtain ⟨as, hr, hn⟩ := RVs.reads I sub ds ps xs its e1 rs rv
    exact ⟨_, Reads.tuple ho hc hd hr, hn⟩
  | .lst ds, p, v, u, e, r, q => by
    obtain ⟨ps, e1, e2⟩ := Option.map_eq_some_iff.mp (show (toPys ds).map PyData.list = some p from e)
    subst e2
    obtain ⟨a, xs, rfl, hq, rs⟩ := r
    cases q
    obtain ⟨its, rv, ⟨o, n, ho, hc, _, hd⟩, _⟩ := I.list (SqL.of (sub _ _ hq))
    obtain ⟨as, hr, hn⟩ := RVs.reads I sub ds ps xs its e1 rs rv
    exact ⟨_, Reads.list ho hc hd hr, fun z => nomatch z⟩
  | .dct kvs, p, v, u, e, r, q => by
    obtain ⟨ps, e1, e2⟩ := Option.map_eq_some_iff.mp (show (toPyk kvs).map PyData.dict = some p from e)
    subst e2
    obtain ⟨a, ks, rfl, hq, rs⟩ := r
    cases q
    obtain ⟨_, hsys, vs, kv, o, es, ep, ho, hx, hd, _, hp, _⟩ := dk_rd I.hok (.inl (sub _ _ hq))
    obtain ⟨bs, hb, eb⟩ := keys_read (s := s) hp
    obtain ⟨as, hk, hr, hn⟩ := RKs.reads I sub kvs ps ks vs es.toList e1 rs kv hp bs hb
    refine ⟨_, Reads.dict ho hx.1 hd hk hr, fun z => ?_⟩
    subst eb
    intro hm
    rcases List.mem_append.mp hm with hm | hm
    · rcases List.mem_cons.mp hm with hm | hm
      · rw [← hm] at hsys
        simp at hsys
      · exact nomatch hm
    · exact hn z hm
  | .ty _, _, _, _, e, _, _ => nomatch e
  | .obj _ _, _, _, _, e, _, _ => nomatch e
  | .fn _, _, _, _, e, _, _ => nomatch e
  | .scr _, _, _, _, e, _, _ => nomatch e
theorem RVs.reads (I : Inv X pins σ H s) (sub : SubH G H) : ∀ (ds : List D) (ps : List PyData) (vs : List V) (us : List Value), toPys ds = some ps → RVs X.K X.mg G ds vs → Vals vs us → ∃ as, ReadsAll s.heap us ps as ∧ (noLsts ps = true → sysModules ∉ as)
  | [], ps, vs, us, e, r, q => by
    have e' : ([] : List PyData) = ps := Option.some.inj e
    subst e'
    cases (show vs = [] from r)
    cases q
    exact ⟨_, ReadsAll.nil, fun _ z => nomatch z⟩
  | d :: ds, ps, vs, us, e, r, q => by
    obtain ⟨p, qs, e0, e1, e2⟩ := toPys_cons e
    subst e0
    obtain ⟨y, ys, rfl, ry, rys⟩ := r
    cases q with
    | cons q1 q2 =>
      obtain ⟨as, h1, n1⟩ := RV.reads I sub d p y _ e1 ry q1
      obtain ⟨bs, h2, n2⟩ := RVs.reads I sub ds qs ys _ e2 rys q2
      refine ⟨_, ReadsAll.cons h1 h2, fun z => ?_⟩
      have z' : noLst p = true ∧ noLsts qs = true := by simpa [noLsts] using z
      intro hm
      exact (List.mem_append.mp hm).elim (n1 z'.1) (n2 z'.2)
theorem RKs.reads (I : Inv X pins σ H s) (sub : SubH G H) : ∀ (ds : List (Key × D)) (ps : List (PyData × PyData)) (vs : List (Key × V)) (us : List (Key × Value)) (es : List DictEntry), toPyk ds = some ps → RKs X.K X.mg G ds vs → KV vs us → Pairs (mixKind X.prog X.w) es us →
    ∀ bs, ReadsAll s.heap (es.map (·.key)) (us.map fun p => keyPy p.1) bs → ∃ as, ReadsAll s.heap (es.map (·.key)) (ps.map (·.1)) bs ∧ ReadsAll s.heap (es.map (·.val)) (ps.map (·.2)) as ∧ (noLstk ps = true → sysModules ∉ as)
  | [], ps, vs, us, es, e, r, q, w, bs, hb => by
    have e' : ([] : List (PyData × PyData)) = ps := Option.some.inj e
    subst e'
    cases (show vs = [] from r)
    cases q
    cases w
    exact ⟨[], hb, ReadsAll.nil, fun _ z => nomatch z⟩
  | (k, d) :: ds, ps, vs, us, es, e, r, q, w, bs, hb => by
    obtain ⟨p, qs, e0, e1, e2⟩ := toPyk_cons e
    subst e0
    obtain ⟨y, ys, rfl, ry, rys⟩ := r
    cases q with
    | cons q1 q2 =>
      cases w with
      | cons w1 w2 w3 =>
        cases hb with
        | cons b1 b2 =>
          obtain ⟨as, h1, h2, n2⟩ := RKs.reads I sub ds qs ys _ _ e2 rys q2 w3 _ b2
          obtain ⟨as1, g1, n1⟩ := RV.reads I sub d p y _ e1 ry q1.2
          refine ⟨as1 ++ as, ReadsAll.cons (d := keyPy k) ?_ h1, ReadsAll.cons (d := p) ?_ h2, fun z => ?_⟩
          · have b2' : Reads s.heap _ (keyPy _) _ := b1
            rw [← q1.1] at b2'
            exact b2'
          · show Reads s.heap (DictEntry.val _) p as1
            rw [w2]
            exact g1
          · have z' : noLst p = true ∧ noLstk qs = true := by simpa [noLstk] using z
            intro hm
            exact (List.mem_append.mp hm).elim (n1 z'.1) (n2 z'.2)
end
/-- an own object too -/
theorem RH.reads (I : Inv X pins σ H s) (sub : SubH G H) {d : D} {p : PyData} {v : V} {u : Value} (e : toPy d = some p) (r : RH X.K X.mg H G d v) (q : RelV v u) : ∃ as, Reads s.heap u p as ∧ (noLst p = true → sysModules ∉ as) := by
  cases d with
  | lst ds =>
    obtain ⟨ps, e1, e2⟩ := Option.map_eq_some_iff.mp (show (toPys ds).map PyData.list = some p from e)
    subst e2
    obtain ⟨a, xs, rfl, hq, rs⟩ := r
    cases q
    obtain ⟨its, rv, ⟨o, n, ho, hc, _, hd⟩, _⟩ := I.list (SqL.of hq)
    obtain ⟨as, hr, hn⟩ := RVs.reads I sub ds ps xs its e1 rs rv
    exact ⟨_, Reads.list ho hc hd hr, fun z => nomatch z⟩
  | dct kvs =>
    obtain ⟨ps, e1, e2⟩ := Option.map_eq_some_iff.mp (show (toPyk kvs).map PyData.dict = some p from e)
    subst e2
    obtain ⟨a, ks, rfl, hq, rs⟩ := r
    cases q
    obtain ⟨_, hsys, vs, kv, o, es, ep, ho, hx, hd, _, hp, _⟩ := dk_rd I.hok (.inl hq)
    obtain ⟨bs, hb, eb⟩ := keys_read (s := s) hp
    obtain ⟨as, hk, hr, hn⟩ := RKs.reads I sub kvs ps ks vs es.toList e1 rs kv hp bs hb
    refine ⟨_, Reads.dict ho hx.1 hd hk hr, fun z => ?_⟩
    subst eb
    intro hm
    rcases List.mem_append.mp hm with hm | hm
    · rcases List.mem_cons.mp hm with hm | hm
      · rw [← hm] at hsys
        simp at hsys
      · exact nomatch hm
    · exact hn z hm
  | non => exact RV.reads I sub _ p v u e r q
  | bl _ => exact RV.reads I sub _ p v u e r q
  | int _ => exact RV.reads I sub _ p v u e r q
  | str _ => exact RV.reads I sub _ p v u e r q
  | tup _ => exact RV.reads I sub _ p v u e r q
  | ty _ => exact nomatch e
  | obj _ _ => exact nomatch e
  | fn _ => exact nomatch e
  | scr _ => exact nomatch e
end
def eqW : D → D → Option W := fun a b => match toPy a, toPy b with
  | some p, some q => if (SeqAt.shaped p && SeqAt.shaped q) = true then some (.d (.bl (PyData.eqv p q))) else none
  | _, _ => none
def neW : D → D → Option W := fun a b => match toPy a, toPy b with
  | some p, some q => if (SeqAt.shaped p && SeqAt.shaped q) = true then some (.d (.bl (!PyData.eqv p q))) else none
  | _, _ => none
def ordW (f : Int → Int → Bool) : D → D → Option W
  | .int a, .int b => some (.d (.bl (f a b)))
  | _, _ => none
def isW (neg : Bool) : D → D → Option W
  | .bl a, .bl b => some (.d (.bl (neg ^^ decide (a = b))))
  | .non, .non => some (.d (.bl (neg ^^ true)))
  | .bl _, .non => some (.d (.bl (neg ^^ false)))
  | .int _, .non => some (.d (.bl (neg ^^ false)))
  | .str _, .non => some (.d (.bl (neg ^^ false)))
  | .tup _, .non => some (.d (.bl (neg ^^ false)))
  | .lst _, .non => some (.d (.bl (neg ^^ false)))
  | .dct _, .non => some (.d (.bl (neg ^^ false)))
  | .obj _ _, .non => some (.d (.bl (neg ^^ false)))
  | _, _ => none
/-- flat data -/
def flatD : D → Option V
  | .non => some .non
  | .bl b => some (.bl b)
  | .int i => some (.int i)
  | .str x => some (.str x)
  | _ => none
def flatDs : List D → Option (List V)
  | [] => some []
  | d :: ds => match flatD d, flatDs ds with
    | some v, some vs => some (v :: vs)
    | _, _ => none
def keyD : D → Option Key
  | .int i => some (.inl i)
  | .str x => some (.inr x)
  | _ => none
def findK : List (Key × D) → Key → Option D
  | [], _ => none
  | (k, d) :: r, y => if k = y then some d else findK r y
def inW (neg : Bool) : D → D → Option W
  | x, .tup ds => match flatD x, flatDs ds with
    | some v, some vs => some (.d (.bl (neg ^^ inV v vs)))
    | _, _ => none
  | x, .lst ds => match flatD x, flatDs ds with
    | some v, some vs => some (.d (.bl (neg ^^ inV v vs)))
    | _, _ => match toPy x, toPys ds with
      | some p, some ps => if (SeqAt.shaped p && SeqAt.shaped (.list ps)) = true then some (.d (.bl (neg ^^ (ps.any fun z => PyData.eqv z p)))) else none
      | _, _ => none
  | x, .dct kvs => match keyD x with
    | some k => some (.d (.bl (neg ^^ (findK kvs k).isSome)))
    | none => none
  | .str x, .str y => some (.d (.bl (neg ^^ !(Builtin.Str.occurrences y x 0 y.length 1).isEmpty)))
  | _, _ => none
def cmpW : CmpOp → D → D → Option W
  | .Eq => eqW
  | .NotEq => neW
  | .Lt => ordW fun i j => decide (i < j)
  | .LtE => ordW fun i j => decide (i ≤ j)
  | .Gt => ordW fun i j => decide (j < i)
  | .GtE => ordW fun i j => decide (j ≤ i)
  | .Is => isW false
  | .IsNot => isW true
  | .In => inW false
  | .NotIn => inW true
section
variable {K : PySem.W.Frag} {mg : Str → Option Value} {H G : Hp}
theorem flatD_ok {d : D} {v w : V} (e : flatD d = some w) (r : RH K mg H G d v) : v = w ∧ flatV v = true := by
  unfold flatD at e
  split at e
  · cases e; cases (show v = .non from r); exact ⟨rfl, rfl⟩
  · cases e; cases (show v = .bl _ from r); exact ⟨rfl, rfl⟩
  · cases e; cases (show v = .int _ from r); exact ⟨rfl, rfl⟩
  · cases e; cases (show v = .str _ from r); exact ⟨rfl, rfl⟩
  · cases e
theorem flatDs_ok (sub : SubH G H) : ∀ {ds : List D} {vs ws : List V}, flatDs ds = some ws → RVs K mg G ds vs → vs = ws ∧ vs.all flatV = true
  | [], vs, ws, e, r => by
    have e' : ([] : List V) = ws := Option.some.inj e
    subst e'
    cases (show vs = [] from r)
    exact ⟨rfl, rfl⟩
  | d :: ds, vs, ws, e, ⟨y, ys, ey, ry, rys⟩ => by
    unfold flatDs at e
    split at e
    · rename_i w ws' e1 e2
      have e' := Option.some.inj e
      subst e' ey
      obtain ⟨h1, h2⟩ := flatD_ok e1 (RH.of sub ry)
      obtain ⟨h3, h4⟩ := flatDs_ok sub e2 rys
      subst h1 h3
      exact ⟨rfl, by simp [h2]; simpa using h4⟩
    · cases e
theorem keyD_ok {d : D} {v : V} {k : Key} (e : keyD d = some k) (r : RH K mg H G d v) : v = kV k := by
  unfold keyD at e
  split at e
  · cases e; exact r
  · cases e; exact r
  · cases e
theorem findK_ok : ∀ {ds : List (Key × D)} {vs : List (Key × V)} {k : Key}, RKs K mg G ds vs → match findK ds k with
    | some d => ∃ v, valV vs k = some v ∧ RV K mg G d v
    | none => valV vs k = none
  | [], vs, k, r => by cases (show vs = [] from r); rfl
  | (k', d) :: ds, vs, k, ⟨y, ys, e, r, t⟩ => by
    subst e
    have ih := findK_ok (k := k) t
    have hv : valV ((k', y) :: ys) k = if k' = k then some y else valV ys k := by
      unfold valV
      rw [List.find?_cons]
      by_cases h : k' = k
      · simp [h]
      · simp [h]
    unfold findK
    rw [hv]
    by_cases h : k' = k
    · rw [if_pos h, if_pos h]
      exact ⟨y, rfl, r⟩
    · rw [if_neg h, if_neg h]
      exact ih
end
section
variable {X : Cx} {Wx : WX} {e a b c : Expr} {pos : Pos} {m : M W} {ma mb mc : M A}
theorem op_eqP (hu : X.A.units + 64 < cLine) : OpR X (compareOp .Eq) (rP2 X.K X.mg eqW) := by
  intro pins s σ H x y v u Q I rx ry h
  obtain ⟨G, a, b, w, sub, ra, rb, e, k⟩ := h
  unfold eqW at e
  split at e
  · rename_i p q ep eq
    split at e
    · rename_i hs
      rw [Bool.and_eq_true] at hs
      have e' := Option.some.inj e
      subst e'
      obtain ⟨as, r1, _⟩ := RH.reads I sub ep ra rx
      obtain ⟨bs, r2, _⟩ := RH.reads I sub eq rb ry
      exact SeqAt.compareEq_shaped r1 r2 hs.1 hs.2 hu ⟨.bl _, H, I, rfl, k _ H G (Al.here sub rfl)⟩
    · cases e
  · cases e
theorem op_neP (hu : X.A.units + 64 < cLine) : OpR X (compareOp .NotEq) (rP2 X.K X.mg neW) := by
  intro pins s σ H x y v u Q I rx ry h
  obtain ⟨G, a, b, w, sub, ra, rb, e, k⟩ := h
  unfold neW at e
  split at e
  · rename_i p q ep eq
    split at e
    · rename_i hs
      rw [Bool.and_eq_true] at hs
      have e' := Option.some.inj e
      subst e'
      obtain ⟨as, r1, _⟩ := RH.reads I sub ep ra rx
      obtain ⟨bs, r2, _⟩ := RH.reads I sub eq rb ry
      exact SeqAt.compareNe_shaped r1 r2 hs.1 hs.2 hu ⟨.bl _, H, I, rfl, k _ H G (Al.here sub rfl)⟩
    · cases e
  · cases e
theorem op_ordP {op : CmpOp} {f : Int → Int → Bool} (h0 : OpR X (compareOp op) (rI0 fun i j => .bl (f i j))) : OpR X (compareOp op) (rP2 X.K X.mg (ordW f)) := by
  intro pins s σ H x y v u Q I rx ry h
  obtain ⟨G, a, b, w, sub, ra, rb, e, k⟩ := h
  unfold ordW at e
  split at e
  · have e' := Option.some.inj e
    subst e'
    cases (show x = .int _ from ra)
    cases (show y = .int _ from rb)
    exact h0 pins s σ H _ _ v u Q I rx ry ⟨_, _, rfl, rfl, k _ H G (Al.here sub rfl)⟩
  · cases e
theorem op_isP : OpR X (compareOp .Is) (rP2 X.K X.mg (isW false)) := by
  intro pins s σ H x y v u Q I rx ry h
  obtain ⟨G, a, b, w, sub, ra, rb, e, k⟩ := h
  unfold isW at e
  split at e
  case h_1 =>
    have e' := Option.some.inj e
    subst e'
    cases (show x = .bl _ from ra)
    cases (show y = .bl _ from rb)
    exact op_is_bl pins s σ H _ _ v u Q I rx ry ⟨_, _, rfl, rfl, by have := k _ H G (Al.here sub rfl); simpa using this⟩
  case h_10 => cases e
  all_goals
    have e' := Option.some.inj e
    subst e'
    cases (show y = .non from rb)
    refine op_isN pins s σ H _ _ v u Q I rx ry ⟨rfl, ?_⟩
    have q := k _ H G (Al.here sub rfl)
  · cases (show x = .non from ra)
    simpa using q
  · cases (show x = .bl _ from ra)
    simpa using q
  · cases (show x = .int _ from ra)
    simpa using q
  · cases (show x = .str _ from ra)
    simpa using q
  · obtain ⟨p, xs, ex, _⟩ := ra
    subst ex
    simpa using q
  · obtain ⟨p, xs, ex, _⟩ := ra
    subst ex
    simpa using q
  · obtain ⟨p, xs, ex, _⟩ := ra
    subst ex
    simpa using q
  · obtain ⟨p, C, dx, vs, ex, _⟩ := ra
    subst ex
    simpa using q
theorem op_isnotP : OpR X (compareOp .IsNot) (rP2 X.K X.mg (isW true)) := by
  intro pins s σ H x y v u Q I rx ry h
  obtain ⟨G, a, b, w, sub, ra, rb, e, k⟩ := h
  unfold isW at e
  split at e
  case h_1 =>
    have e' := Option.some.inj e
    subst e'
    cases (show x = .bl _ from ra)
    cases (show y = .bl _ from rb)
    exact op_isnot_bl pins s σ H _ _ v u Q I rx ry ⟨_, _, rfl, rfl, by have := k _ H G (Al.here sub rfl); simpa using this⟩
  case h_10 => cases e
  all_goals
    have e' := Option.some.inj e
    subst e'
    cases (show y = .non from rb)
    refine op_notN pins s σ H _ _ v u Q I rx ry ⟨rfl, ?_⟩
    have q := k _ H G (Al.here sub rfl)
  · cases (show x = .non from ra)
    simpa using q
  · cases (show x = .bl _ from ra)
    simpa using q
  · cases (show x = .int _ from ra)
    simpa using q
  · cases (show x = .str _ from ra)
    simpa using q
  · obtain ⟨p, xs, ex, _⟩ := ra
    subst ex
    simpa using q
  · obtain ⟨p, xs, ex, _⟩ := ra
    subst ex
    simpa using q
  · obtain ⟨p, xs, ex, _⟩ := ra
    subst ex
    simpa using q
  · obtain ⟨p, C, dx, vs, ex, _⟩ := ra
    subst ex
    simpa using q
theorem op_inP (hu : X.A.units + 65 < cLine) : OpR X (compareOp .In) (rP2 X.K X.mg (inW false)) := by
  intro pins s σ H x y v u Q I rx ry h
  obtain ⟨G, a, b, w, sub, ra, rb, e, k⟩ := h
  unfold inW at e
  split at e
  · split at e
    · rename_i w1 ws h1 h2
      have e' := Option.some.inj e
      subst e'
      obtain ⟨p, xs, ey, hq, rs⟩ := rb
      obtain ⟨e1, f1⟩ := flatD_ok h1 ra
      obtain ⟨e2, f2⟩ := flatDs_ok sub h2 rs
      subst e1 e2 ey
      exact op_in_seq pins s σ H _ _ v u Q I rx ry ⟨p, _, rfl, .inr (sqT_mono sub hq), f1, f2, by have := k _ H G (Al.here sub rfl); simpa using this⟩
    · cases e
  · split at e
    · rename_i w1 ws h1 h2
      have e' := Option.some.inj e
      subst e'
      obtain ⟨p, xs, ey, hq, rs⟩ := rb
      obtain ⟨e1, f1⟩ := flatD_ok h1 ra
      obtain ⟨e2, f2⟩ := flatDs_ok sub h2 rs
      subst e1 e2 ey
      exact op_in_seq pins s σ H _ _ v u Q I rx ry ⟨p, _, rfl, .inl (SqL.of hq), f1, f2, by have := k _ H G (Al.here sub rfl); simpa using this⟩
    · split at e
      · rename_i p ps h1 h2
        split at e
        · rename_i hs
          rw [Bool.and_eq_true] at hs
          have e' := Option.some.inj e
          subst e'
          obtain ⟨as, r1, _⟩ := RH.reads I sub h1 ra rx
          obtain ⟨bs, r2, _⟩ := RH.reads I sub (d := .lst _) (p := .list ps) (by show (toPys _).map _ = _; rw [h2]; rfl) rb ry
          exact SeqAt.in_list_reads r2 r1 (SeqAt.canLay_of_shaped hs.2) (SeqAt.canLay_of_shaped hs.1) (room_in_shaped hs.1 hu) ⟨.bl _, H, I, rfl, by have := k _ H G (Al.here sub rfl); simpa using this⟩
        · cases e
      · cases e
  · split at e
    · rename_i kk hk
      have e' := Option.some.inj e
      subst e'
      obtain ⟨p, ks, ey, hq, rs⟩ := rb
      have ex := keyD_ok hk ra
      subst ex ey
      have f := findK_ok (k := kk) rs
      cases (show u = Value.ref p from ry)
      refine d_in (by omega) I (DGet.k (k := kk) hq) rx fun s' I' => ⟨.bl _, H, I', rfl, ?_⟩
      have q := k _ H G (Al.here sub rfl)
      split at f
      · rename_i d hd
        obtain ⟨v', hv, _⟩ := f
        rw [hv]
        rw [hd] at q
        simpa using q
      · rename_i hd
        rw [f]
        rw [hd] at q
        simpa using q
    · cases e
  · have e' := Option.some.inj e
    subst e'
    cases (show x = .str _ from ra)
    cases (show y = .str _ from rb)
    exact op_in_str pins s σ H _ _ v u Q I rx ry ⟨_, _, rfl, rfl, by have := k _ H G (Al.here sub rfl); simpa using this⟩
  · cases e
theorem op_notInP (hu : X.A.units + 65 < cLine) : OpR X (compareOp .NotIn) (rP2 X.K X.mg (inW true)) := by
  intro pins s σ H x y v u Q I rx ry h
  obtain ⟨G, a, b, w, sub, ra, rb, e, k⟩ := h
  unfold inW at e
  split at e
  · split at e
    · rename_i w1 ws h1 h2
      have e' := Option.some.inj e
      subst e'
      obtain ⟨p, xs, ey, hq, rs⟩ := rb
      obtain ⟨e1, f1⟩ := flatD_ok h1 ra
      obtain ⟨e2, f2⟩ := flatDs_ok sub h2 rs
      subst e1 e2 ey
      exact op_notIn_seq pins s σ H _ _ v u Q I rx ry ⟨p, _, rfl, .inr (sqT_mono sub hq), f1, f2, by have := k _ H G (Al.here sub rfl); simpa using this⟩
    · cases e
  · split at e
    · rename_i w1 ws h1 h2
      have e' := Option.some.inj e
      subst e'
      obtain ⟨p, xs, ey, hq, rs⟩ := rb
      obtain ⟨e1, f1⟩ := flatD_ok h1 ra
      obtain ⟨e2, f2⟩ := flatDs_ok sub h2 rs
      subst e1 e2 ey
      exact op_notIn_seq pins s σ H _ _ v u Q I rx ry ⟨p, _, rfl, .inl (SqL.of hq), f1, f2, by have := k _ H G (Al.here sub rfl); simpa using this⟩
    · split at e
      · rename_i p ps h1 h2
        split at e
        · rename_i hs
          rw [Bool.and_eq_true] at hs
          have e' := Option.some.inj e
          subst e'
          obtain ⟨as, r1, _⟩ := RH.reads I sub h1 ra rx
          obtain ⟨bs, r2, _⟩ := RH.reads I sub (d := .lst _) (p := .list ps) (by show (toPys _).map _ = _; rw [h2]; rfl) rb ry
          exact SeqAt.notIn_list_reads r2 r1 (SeqAt.canLay_of_shaped hs.2) (SeqAt.canLay_of_shaped hs.1) (room_in_shaped hs.1 hu) ⟨.bl _, H, I, rfl, by have := k _ H G (Al.here sub rfl); simpa using this⟩
        · cases e
      · cases e
  · split at e
    · rename_i kk hk
      have e' := Option.some.inj e
      subst e'
      obtain ⟨p, ks, ey, hq, rs⟩ := rb
      have ex := keyD_ok hk ra
      subst ex ey
      have f := findK_ok (k := kk) rs
      cases (show u = Value.ref p from ry)
      refine d_notIn (by omega) I (DGet.k (k := kk) hq) rx fun s' I' => ⟨.bl _, H, I', rfl, ?_⟩
      have q := k _ H G (Al.here sub rfl)
      split at f
      · rename_i d hd
        obtain ⟨v', hv, _⟩ := f
        rw [hv]
        rw [hd] at q
        simpa using q
      · rename_i hd
        rw [f]
        rw [hd] at q
        simpa using q
    · cases e
  · have e' := Option.some.inj e
    subst e'
    cases (show x = .str _ from ra)
    cases (show y = .str _ from rb)
    exact op_notin_str pins s σ H _ _ v u Q I rx ry ⟨_, _, rfl, rfl, by have := k _ H G (Al.here sub rfl); simpa using this⟩
  · cases e
/-- any comparison -/
theorem op_cmpP (hu : X.A.units + 65 < cLine) : ∀ op : CmpOp, OpR X (compareOp op) (rP2 X.K X.mg (cmpW op))
  | .Eq => op_eqP (by omega)
  | .NotEq => op_neP (by omega)
  | .Lt => op_ordP op_lt
  | .LtE => op_ordP op_le
  | .Gt => op_ordP op_gt
  | .GtE => op_ordP op_ge
  | .Is => op_isP
  | .IsNot => op_isnotP
  | .In => op_inP hu
  | .NotIn => op_notInP hu
def cmpM (op : CmpOp) (ma mb : M A) : M W := fun ρ => (ma ρ).bind fun x ρ => (mb ρ).bind fun y ρ => op2 (cmpW op) x y ρ
theorem pm_cmp {op : CmpOp} (hu : X.A.units + 65 < cLine) (ha : PMA X Wx a ma) (hb : PMA X Wx b mb) (hm : behindInMarks op b = false) : PM X Wx (.Compare a [op] [b] pos) (cmpM op ma mb) :=
  peImp (pe_cmpR (op_cmpP hu op) ha hb hm) fun σ H Q h => two_go h
/-- a value that is True or False -/
def boolM (m : M W) : M Bool := fun ρ => match m ρ with
  | .ok (.d (.bl b)) ρ => .ok b ρ
  | .exc c fs ρ => .exc c fs ρ
  | _ => .bad
theorem tTest_of {K : PySem.W.Frag} {mg : Str → Option Value} {t : TE} {σ : St} {H : Hp} {Q : Bool → Hp → Prop} {m : M W} (h : ∀ Q, tM K mg Wx m σ H Q → t σ H Q) (q : tB2 K mg Wx (boolM m) σ H Q) : tTest t σ H Q := by
  refine h _ ?_
  obtain ⟨ρ, G, R, g⟩ := q
  refine ⟨ρ, G, R, ?_⟩
  unfold boolM at g
  cases e : m ρ with
  | ok w ρ1 =>
    rw [e] at g
    intro v H' G' R' F' r
    cases w with
    | d x =>
      cases x with
      | bl b => exact ⟨b, r.1, g H' G' R' F'⟩
      | _ => exact g.elim
    | own x => exact g.elim
  | exc c fs ρ1 => rw [e] at g; exact g
  | bad => rw [e] at g; exact g
theorem pmb_cmp {op : CmpOp} (hu : X.A.units + 65 < cLine) (ha : PMA X Wx a ma) (hb : PMA X Wx b mb) (hm : behindInMarks op b = false) : PMB X Wx (.Compare a [op] [b] pos) (boolM (cmpM op ma mb)) :=
  ptImp (pt_cmpR (op_cmpP hu op) ha hb hm) fun σ H Q h => tTest_of (fun Q h => two_go h) h
/-- two comparisons in a row -/
def chainM (op op' : CmpOp) (ma mb mc : M A) : M W := fun ρ => (ma ρ).bind fun x ρ => (mb ρ).bind fun y ρ => (op2 (cmpW op) x y ρ).dat fun z ρ => match z with
  | .bl true => (mc ρ).bind fun w ρ => op2 (cmpW op') y w ρ
  | .bl false => .ok (.d (.bl false)) ρ
  | _ => .bad
theorem chain_go {op op' : CmpOp} {K : PySem.W.Frag} {mg : Str → Option Value} {σ : St} {H : Hp} {Q : VK} (h : tM K mg Wx (chainM op op' ma mb mc) σ H Q) :
    tChain (rP2 K mg (cmpW op)) (rP2 K mg (cmpW op')) (tA K mg Wx ma) (tA K mg Wx mb) (tA K mg Wx mc) σ H Q := by
  obtain ⟨ρ, G, R, h⟩ := h
  refine tA_mono (tA_bind R h) fun v H1 ⟨x, ρ1, G1, R1, rv, F1, k⟩ => ?_
  refine tA_mono (tA_bind R1 k) fun u H2 ⟨y, ρ2, G2, R2, ru, F2, k2⟩ => ?_
  unfold op2 at k2
  split at k2
  · rename_i da db ea eb
    unfold liftM at k2
    split at k2
    · rename_i w e
      refine ⟨G2, da, db, w, R2.sub, (rv.mono F2.grow).read R2 ea, ru.read R2 eb, e, fun z H3 G3 al => ?_⟩
      obtain ⟨R3, F3, r3⟩ := R2.al al
      obtain ⟨G4, R4, F4, rz⟩ := keep_res R3 F3 r3
      have k3 : GoE K mg Wx σ ρ2 H3 G4 _ Q := GoE.shift F4 k2
      dsimp only [Res.dat] at k3
      split at k3
      · rename_i ez
        rw [ez] at rz
        exact ⟨true, rz, iteT (tA_mono (tA_bind R4 k3) fun t H5 ⟨d, ρ5, G5, R5, rt, F5, k5⟩ => op2_go R5 (ru.mono (F4.grow.trans F5.grow)) rt k5)⟩
      · rename_i ez
        rw [ez] at rz
        exact ⟨false, rz, iteF (k3 _ H3 G4 R4 Fr.refl ⟨rfl, fun _ _ z => nomatch z⟩)⟩
      · exact k3.elim
    · exact k2.elim
  · exact k2.elim
theorem pm_chain {op op' : CmpOp} (hu : X.A.units + 65 < cLine) (ha : PMA X Wx a ma) (hb : PMA X Wx b mb) (hc : PMA X Wx c mc) (hm : lastMarks [op, op'] [b, c] = false) : PM X Wx (.Compare a [op, op'] [b, c] pos) (chainM op op' ma mb mc) :=
  peImp (pe_chain (op_cmpP hu op) (op_cmpP hu op') ha hb hc hm) fun σ H Q h => chain_go h
theorem pmb_chain {op op' : CmpOp} (hu : X.A.units + 65 < cLine) (ha : PMA X Wx a ma) (hb : PMA X Wx b mb) (hc : PMA X Wx c mc) (hm : lastMarks [op, op'] [b, c] = false) : PMB X Wx (.Compare a [op, op'] [b, c] pos) (boolM (chainM op op' ma mb mc)) :=
  ptImp (pt_chain (op_cmpP hu op) (op_cmpP hu op') ha hb hc hm) fun σ H Q h => tTest_of (fun Q h => chain_go h) h
end
end FL
set_option Elab.async false
set_option linter.all false
set_option maxRecDepth 100000
set_option maxHeartbeats 2000000
namespace FL
open PySem PySem.Spec L2
open PyProof.Rows hiding St
def ixW : D → D → Option W
  | .tup ds, .int i => (atI ds i).map .d
  | .lst ds, .int i => (atI ds i).map .d
  | .str z, .int i => if sizeOk z.length = true then (atI z.cps.toList i).map fun c => .d (.str ⟨#[c]⟩) else none
  | .dct kvs, x => match keyD x with
    | some k => (findK kvs k).map .d
    | none => none
  | _, _ => none
section
variable {K : PySem.W.Frag} {mg : Str → Option Value} {H G : Hp}
theorem RVs.atI {ds : List D} {xs : List V} {i : Int} {d : D} (r : RVs K mg G ds xs) (h : L2.atI ds i = some d) : ∃ v, L2.atI xs i = some v ∧ RV K mg G d v := by
  unfold L2.atI at h ⊢
  obtain ⟨j, h1, h2⟩ := Option.bind_eq_some_iff.mp h
  obtain ⟨v, h3, h4⟩ := r.get h2
  refine ⟨v, ?_, h4⟩
  rw [← r.length, h1]
  exact h3
end
section
variable {X : Cx} {Wx : WX} {e a b c : Expr} {pos : Pos} {m : M W} {ma mb mc : M A}
theorem ix_dct (hu : X.A.units + 1 < cLine) : IxR X (fun x y H Q => ∃ p k v, x = .ref p ∧ DGet H p y (some v) ∧ k = (0 : Nat) ∧ Q v H) := by
  intro value slice pins s σ H x y v u Q I rx ry h hs
  obtain ⟨p, _, w, ex, g, _, q⟩ := h
  subst ex
  cases (show v = Value.ref p from rx)
  have ty := dict_typeIs I g
  have last : wpAny (model X.prog X.w) X.A (subscripted slice false (.ref p) u) (fun r s3 => wpAny (model X.prog X.w) X.A (do letTemporaryGo value (.ref p) r; pure r) (EP X pins σ Q) X.xe s3) X.xe s := by
    rw [hs]
    refine wpAny_operating (d_getItem hu I g ry fun w' s' I' rw' => wpAny_bind (wpAny_letTemporaryGo (wpAny_pure ?_)))
    exact ⟨w, H, I', rw', q⟩
  unfold subscriptTail
  refine wpAny_bind ?_
  rw [getitemInPython_of_ne ty.not_modules]
  refine wpAny_bind (wpAny_specialOf ty PySem.F.slot_dict_getitem.lookup ?_)
  first
    | exact wpAny_pure (wpAny_bind last)
    | exact wpAny_bind (wpAny_pure (wpAny_bind last))
    | exact wpAny_bind last
theorem ix_P (hu : X.A.units + 1 < cLine) : IxR X (rP2 X.K X.mg ixW) := by
  intro value slice pins s σ H x y v u Q I rx ry h hs
  obtain ⟨G, a, b, w, sub, ra, rb, e, k⟩ := h
  unfold ixW at e
  split at e
  · obtain ⟨d, h1, h2⟩ := Option.map_eq_some_iff.mp e
    subst h2
    obtain ⟨p, xs, ex, hq, rs⟩ := ra
    cases (show y = .int _ from rb)
    subst ex
    obtain ⟨z, hz, rz⟩ := rs.atI h1
    exact ix_tup value slice pins s σ H _ _ v u Q I rx ry ⟨p, xs, _, z, rfl, rfl, sqT_mono sub hq, hz, k _ H G (Al.here sub rz)⟩ hs
  · obtain ⟨d, h1, h2⟩ := Option.map_eq_some_iff.mp e
    subst h2
    obtain ⟨p, xs, ex, hq, rs⟩ := ra
    cases (show y = .int _ from rb)
    subst ex
    obtain ⟨z, hz, rz⟩ := rs.atI h1
    exact ix_list value slice pins s σ H _ _ v u Q I rx ry ⟨p, xs, _, z, rfl, rfl, SqL.of hq, hz, k _ H G (Al.here sub rz)⟩ hs
  · split at e
    · rename_i hz
      obtain ⟨d, h1, h2⟩ := Option.map_eq_some_iff.mp e
      subst h2
      cases (show x = .str _ from ra)
      cases (show y = .int _ from rb)
      exact ix_str value slice pins s σ H _ _ v u Q I rx ry ⟨_, _, d, rfl, rfl, sizeOk_le hz, h1, k _ H G (Al.here sub rfl)⟩ hs
    · cases e
  · split at e
    · rename_i kk hk
      obtain ⟨d, h1, h2⟩ := Option.map_eq_some_iff.mp e
      subst h2
      obtain ⟨p, ks, ex, hq, rs⟩ := ra
      have ey := keyD_ok hk rb
      subst ex ey
      have f := findK_ok (k := kk) rs
      rw [h1] at f
      obtain ⟨z, hz, rz⟩ := f
      exact ix_dct hu value slice pins s σ H _ _ v u Q I rx ry ⟨p, 0, z, rfl, by rw [← hz]; exact DGet.k (k := kk) hq, rfl, k _ H G (Al.here sub rz)⟩ hs
    · cases e
  · cases e
def ixM (ma mb : M A) : M W := fun ρ => (ma ρ).bind fun x ρ => (mb ρ).bind fun y ρ => op2 ixW x y ρ
theorem pm_ix (hu : X.A.units + 1 < cLine) (ha : PMA X Wx a ma) (hb : PMA X Wx b mb) (hs : PlainIx b) : PM X Wx (.Subscript a b pos) (ixM ma mb) := peImp (pe_ix (ix_P hu) ha hb hs) fun σ H Q h => two_go h
def cutD {α : Type} (xs : List α) (lo hi : Option Int) : List α := (xs.drop (HT.sIx xs.length 0 lo)).take (HT.sIx xs.length xs.length hi - HT.sIx xs.length 0 lo)
def slW (lo hi : Option Int) : D → Option W
  | .tup ds => some (.d (.tup (cutD ds lo hi)))
  | .lst ds => some (.own (.lst (cutD ds lo hi)))
  | .str z => if sizeOk z.length = true then some (.d (.str (cutS z lo hi))) else none
  | _ => none
def rSlP (K : PySem.W.Frag) (mg : Str → Option Value) : V → Option Int → Option Int → Hp → VK → Prop := fun x lo hi H Q =>
  ∃ G a w, SubH G H ∧ RH K mg H G a x ∧ slW lo hi a = some w ∧ ∀ v H' G', Al K mg H G H' G' v w → Q v H'
theorem RVs.cut {K : PySem.W.Frag} {mg : Str → Option Value} {G : Hp} {ds : List D} {xs : List V} (r : RVs K mg G ds xs) (lo hi : Option Int) : RVs K mg G (cutD ds lo hi) (cutV xs lo hi) := by
  unfold cutD cutV
  rw [r.length]
  exact (r.drop _).take _
theorem sl_P : SlR X (rSlP X.K X.mg) := by
  intro pins s σ H x v vl vu lo hi sl Q I rx hs pl pu h
  obtain ⟨G, a, w, sub, ra, e, k⟩ := h
  unfold slW at e
  split at e
  · have e' := Option.some.inj e
    subst e'
    obtain ⟨p, xs, ex, hq, rs⟩ := ra
    subst ex
    refine sl_tupA pins s σ H _ v vl vu lo hi sl Q I rx hs pl pu ⟨p, xs, rfl, sqT_mono sub hq, fun hw => ?_, fun hw q hp => k _ _ _ (Al.tup sub hp (rs.cut lo hi))⟩
    refine k _ H G (Al.here sub ⟨p, xs, rfl, hq, ?_⟩)
    have e2 : cutV xs lo hi = xs := by
      unfold cutV
      rw [hw.1, hw.2]
      simp
    have := rs.cut lo hi
    rw [e2] at this
    exact this
  · have e' := Option.some.inj e
    subst e'
    obtain ⟨p, xs, ex, hq, rs⟩ := ra
    subst ex
    exact sl_list pins s σ H _ v vl vu lo hi sl Q I rx hs pl pu ⟨p, xs, rfl, SqL.of hq, fun q hp => k _ _ _ (Al.lst sub hp (rs.cut lo hi))⟩
  · split at e
    · rename_i hz
      have e' := Option.some.inj e
      subst e'
      cases (show x = .str _ from ra)
      exact sl_str pins s σ H _ v vl vu lo hi sl Q I rx hs pl pu ⟨_, rfl, sizeOk_le hz, k _ H G (Al.here sub rfl)⟩
    · cases e
  · cases e
/-- an end of a slice -/
def GoO (K : PySem.W.Frag) (mg : Str → Option Value) (Wx : WX) (σ : St) (ρ : Rho) (H G : Hp) (r : Res (Option Int)) (Q : Option Int → Hp → Prop) : Prop :=
  match r with
  | .ok a ρ' => ∀ H' G', Rel K mg σ ρ' H' G' → Fr [] σ ρ H G σ ρ' H' G' → Q a H'
  | .exc c fs ρ' => ∀ cls od H' G', Rel K mg σ ρ' H' G' → Fr [] σ ρ H G σ ρ' H' G' → RX K mg H' G' cls od c fs → Wx cls od σ H'
  | .bad => False
def tO2 (K : PySem.W.Frag) (mg : Str → Option Value) (Wx : WX) (m : M (Option Int)) : TO := fun σ H Q => ∃ ρ G, Rel K mg σ ρ H G ∧ GoO K mg Wx σ ρ H G (m ρ) Q
abbrev PMO (X : Cx) (Wx : WX) (e : Option Expr) (m : M (Option Int)) : Prop := PO X e (tO2 X.K X.mg Wx m)
def noPart : M (Option Int) := fun ρ => .ok none ρ
def partM (m : M W) : M (Option Int) := fun ρ => (m ρ).dat fun x ρ => match x with
  | .int i => .ok (some i) ρ
  | _ => .bad
section
variable {K : PySem.W.Frag} {mg : Str → Option Value} {σ : St} {ρ ρ1 : Rho} {H H1 G G1 : Hp}
theorem GoO.shift {r : Res (Option Int)} {Q : Option Int → Hp → Prop} (f : Fr [] σ ρ H G σ ρ1 H1 G1) (h : GoO K mg Wx σ ρ H G r Q) : GoO K mg Wx σ ρ1 H1 G1 r Q := by
  cases r with
  | ok w ρ' => exact fun H' G' R F => h H' G' R (f.trans F)
  | exc c fs ρ' => exact fun cls od H' G' R F r => h cls od H' G' R (f.trans F) r
  | bad => exact h
theorem tO2_bind {m : M (Option Int)} {f : Option Int → M W} {Q : VK} (R : Rel K mg σ ρ H G) (h : GoE K mg Wx σ ρ H G ((m ρ).bind f) Q) :
    tO2 K mg Wx m σ H fun o H1 => ∃ ρ1 G1, Rel K mg σ ρ1 H1 G1 ∧ Fr [] σ ρ H G σ ρ1 H1 G1 ∧ GoE K mg Wx σ ρ1 H1 G1 (f o ρ1) Q := by
  refine ⟨ρ, G, R, ?_⟩
  cases e : m ρ with
  | ok w ρ1 => rw [e] at h; exact fun H' G' R' F' => ⟨ρ1, G', R', F', GoE.shift F' h⟩
  | exc c fs ρ1 => rw [e] at h; exact h
  | bad => rw [e] at h; exact h.elim
theorem tO2_mono {m : M (Option Int)} {Q Q' : Option Int → Hp → Prop} (h : tO2 K mg Wx m σ H Q) (k : ∀ v H1, Q v H1 → Q' v H1) : tO2 K mg Wx m σ H Q' := by
  obtain ⟨ρ, G, R, g⟩ := h
  refine ⟨ρ, G, R, ?_⟩
  cases e : m ρ with
  | ok w ρ1 => rw [e] at g; exact fun H' G' R' F' => k _ _ (g H' G' R' F')
  | exc c fs ρ1 => rw [e] at g; exact g
  | bad => rw [e] at g; exact g
theorem tM_datO {m : M W} {f : D → M (Option Int)} {Q : Option Int → Hp → Prop} (R : Rel K mg σ ρ H G) (h : GoO K mg Wx σ ρ H G ((m ρ).dat f) Q) :
    tM K mg Wx m σ H fun v H1 => ∃ x ρ1 G1, Rel K mg σ ρ1 H1 G1 ∧ RV K mg G1 x v ∧ Fr [] σ ρ H G σ ρ1 H1 G1 ∧ GoO K mg Wx σ ρ1 H1 G1 (f x ρ1) Q := by
  refine ⟨ρ, G, R, ?_⟩
  cases e : m ρ with
  | ok w ρ1 =>
    rw [e] at h
    intro v H' G' R' F' r
    obtain ⟨G2, R2, F2, rv⟩ := keep_res R' F' r
    exact ⟨w.data, ρ1, G2, R2, rv, F2, GoO.shift F2 h⟩
  | exc c fs ρ1 => rw [e] at h; exact h
  | bad => rw [e] at h; exact h.elim
end
theorem poImp {e : Option Expr} {u u' : TO} (h : PO X e u) (w : ∀ σ H Q, u' σ H Q → u σ H Q) : PO X e u' := ⟨fun pins s σ H Q I q => h.run pins s σ H Q I (w σ H Q q)⟩
theorem pmo_none : PMO X Wx none noPart := poImp po_none fun σ H Q h => by
  obtain ⟨ρ, G, R, h⟩ := h
  exact h H G R Fr.refl
theorem pmo_some (h : PM X Wx e m) : PMO X Wx (some e) (partM m) := poImp (po_some h) fun σ H Q h => by
  obtain ⟨ρ, G, R, h⟩ := h
  refine tM_mono (tM_datO R h) fun v H1 ⟨x, ρ1, G1, R1, rv, F1, k⟩ => ?_
  split at k
  · exact ⟨_, rv, k H1 G1 R1 Fr.refl⟩
  · exact k.elim
def slM (ma : M A) (ml mh : M (Option Int)) : M W := fun ρ => (ma ρ).bind fun x ρ => (ml ρ).bind fun lo ρ => (mh ρ).bind fun hi ρ => op1 (slW lo hi) x ρ
theorem pm_sl {lo hi : Option Expr} {ml mh : M (Option Int)} {p2 : Pos} (ha : PMA X Wx a ma) (hl : PMO X Wx lo ml) (hh : PMO X Wx hi mh) : PM X Wx (.Subscript a (.Slice lo hi none p2) pos) (slM ma ml mh) := by
  refine peImp (pe_slice sl_P ha hl hh) fun σ H Q h => ?_
  obtain ⟨ρ, G, R, h⟩ := h
  refine tA_mono (tA_bind R h) fun v H1 ⟨x, ρ1, G1, R1, rv, F1, k⟩ => ?_
  refine tO2_mono (tO2_bind R1 k) fun l H2 ⟨ρ2, G2, R2, F2, k2⟩ => ?_
  refine tO2_mono (tO2_bind R2 k2) fun u H3 ⟨ρ3, G3, R3, F3, k3⟩ => ?_
  exact op1_go R3 (rv.mono (F2.grow.trans F3.grow)) k3
/-- a call of a built-in by data -/
def bcM (φ : List D → Option W) (ms : M (List A)) : M W := fun ρ => (ms ρ).bind fun xs ρ => opn φ xs ρ
theorem pm_bcB {es : List Expr} {x : Str} {p : Pos} {id : String} {φ : List D → Option W} {ms : M (List A)} (hc : CallR X (.builtin id) (rPn X.K X.mg φ)) (hg : Gl X x) (hm : X.mg x = none) (hv : bootBuiltins x = some (.builtin id))
    (ha : PMAs X Wx (e :: es) ms) (hn : x ≠ "__name__") (hdb : (x == ("__debug__" : Str)) = false) (he : starEach (e :: es) X.env = (false, eval e X.env) :: starEach es X.env) (hpl : (backTo pos (starEach es X.env)).any (·.1) = false) :
    PM X Wx (.Call (.Name x p) (e :: es) [] pos) (bcM φ ms) := by
  refine peImp (pe_callB hc hg hm hv ha hn hdb he hpl) fun σ H Q h => ?_
  obtain ⟨ρ, G, R, h⟩ := h
  exact tAs_mono (tAs_bind R h) fun vs H1 ⟨as, ρ1, G1, R1, rv, F1, k⟩ => opn_go R1 rv k
theorem pm_bcT {es : List Expr} {x : Str} {p : Pos} {T : String} {φ : List D → Option W} {ms : M (List A)} (hc : CallR X (.type T) (rPn X.K X.mg φ)) (hg : Gl X x) (hm : X.mg x = none) (hv : bootBuiltins x = some (.type T))
    (ha : PMAs X Wx (e :: es) ms) (hn : x ≠ "__name__") (hdb : (x == ("__debug__" : Str)) = false) (he : starEach (e :: es) X.env = (false, eval e X.env) :: starEach es X.env) (hpl : (backTo pos (starEach es X.env)).any (·.1) = false) :
    PM X Wx (.Call (.Name x p) (e :: es) [] pos) (bcM φ ms) := by
  refine peImp (pe_callTy hc hg hm hv ha hn hdb he hpl) fun σ H Q h => ?_
  obtain ⟨ρ, G, R, h⟩ := h
  exact tAs_mono (tAs_bind R h) fun vs H1 ⟨as, ρ1, G1, R1, rv, F1, k⟩ => opn_go R1 rv k
theorem pm_bcF {es : List Expr} {x : Str} {p : Pos} {id : String} {φ : List D → Option W} {ms : M (List A)} (hc : CallR X (.builtin id) (rPn X.K X.mg φ)) (hg : Gl X x) (hm : X.mg x = some (.builtin id))
    (ha : PMAs X Wx (e :: es) ms) (hdb : (x == ("__debug__" : Str)) = false) (he : starEach (e :: es) X.env = (false, eval e X.env) :: starEach es X.env) (hpl : (backTo pos (starEach es X.env)).any (·.1) = false) :
    PM X Wx (.Call (.Name x p) (e :: es) [] pos) (bcM φ ms) := by
  refine peImp (pe_callBfun hc hg hm ha hdb he hpl) fun σ H Q h => ?_
  obtain ⟨ρ, G, R, h⟩ := h
  exact tAs_mono (tAs_bind R h) fun vs H1 ⟨as, ρ1, G1, R1, rv, F1, k⟩ => opn_go R1 rv k
end
end FL
set_option Elab.async false
set_option linter.all false
set_option maxRecDepth 100000
set_option maxHeartbeats 2000000
namespace FL
open PySem PySem.Spec L2
open PyProof.Rows hiding St
def lenW : List D → Option W
  | [.tup ds] => some (.d (.int ds.length))
  | [.lst ds] => some (.d (.int ds.length))
  | [.dct ds] => some (.d (.int ds.length))
  | [.str z] => if sizeOk z.length = true then some (.d (.int z.length)) else none
  | _ => none
def absW : List D → Option W
  | [.int i] => some (.d (.int (if i < 0 then -i else i)))
  | _ => none
def intW : List D → Option W
  | [.int i] => some (.d (.int i))
  | [.bl b] => some (.d (.int (if b then 1 else 0)))
  | _ => none
def gcdW : List D → Option W
  | [.int a, .int b] => some (.d (.int ((Nat.gcd a.natAbs b.natAbs : Nat) : Int)))
  | _ => none
def max2W : List D → Option W
  | [.int a, .int b] => some (.d (.int (if b > a then b else a)))
  | _ => none
def min2W : List D → Option W
  | [.int a, .int b] => some (.d (.int (if b < a then b else a)))
  | _ => none
def blsD : List D → Option (List Bool)
  | [] => some []
  | .bl b :: ds => (blsD ds).map (b :: ·)
  | _ => none
def allW : List D → Option W
  | [.lst ds] => (blsD ds).map fun bs => .d (.bl (bs.all id))
  | _ => none
def anyW : List D → Option W
  | [.lst ds] => (blsD ds).map fun bs => .d (.bl (bs.any id))
  | _ => none
def listW : List D → Option W
  | [.tup ds] => some (.own (.lst ds))
  | [.lst ds] => some (.own (.lst ds))
  | [.scr ns] => some (.own (.lst (ns.map .int)))
  | _ => none
def tupleW : List D → Option W
  | [.tup ds] => some (.d (.tup ds))
  | [.lst ds] => some (.d (.tup ds))
  | _ => none
mutual
/-- texts and numbers that are not too long to be shown -/
def rOk : PyData → Bool
  | .int i => decide (i.natAbs.log2 < 1920)
  | .str x => x.cps.toList.all fun c => decide (c < 16 ^ 8)
  | .list xs => rOks xs
  | .tuple xs => rOks xs
  | .dict kvs => rOkk kvs
  | _ => true
def rOks : List PyData → Bool
  | [] => true
  | x :: xs => rOk x && rOks xs
def rOkk : List (PyData × PyData) → Bool
  | [] => true
  | (k, v) :: r => rOk k && rOk v && rOkk r
end
mutual
/-- how much there is to be shown -/
def rsz : PyData → Nat
  | .str x => x.cps.size + 1
  | .list xs => rszs xs + 1
  | .tuple xs => rszs xs + 1
  | .dict kvs => rszk kvs + 1
  | _ => 1
def rszs : List PyData → Nat
  | [] => 0
  | x :: xs => rsz x + 1 + rszs xs
def rszk : List (PyData × PyData) → Nat
  | [] => 0
  | (k, v) :: r => rsz k + rsz v + 1 + rszk r
end
theorem shownAll_len : ∀ xs : List PyData, (PyData.shownAll xs).length = xs.length
  | [] => rfl
  | x :: xs => by simp only [PyData.shownAll, List.length_cons, shownAll_len xs]
mutual
theorem rOk_ok : ∀ p : PyData, rOk p = true → p.showable = true ∧ p.shown.length ≤ 1930 * rsz p
  | .none, _ => ⟨rfl, by decide⟩
  | .bool b, _ => ⟨rfl, by cases b <;> decide⟩
  | .int i, h => by
    have h' : i.natAbs.log2 < 1920 := of_decide_eq_true h
    refine ⟨h, ?_⟩
    have e := int_text_length_le (k := 1920) (by decide) h'
    have e2 : (PyData.shown (.int i)).length = (toString i).length := PySem.ofString_length _
    rw [e2]
    simp only [rsz]
    omega
  | .str x, h => by
    have hx : ∀ c ∈ x.cps.toList, c < 16 ^ 8 := by simpa only [rOk, List.all_eq_true, decide_eq_true_eq] using h
    have e := PySem.StrLaws.reprText_len x hx
    have e2 : x.length = x.cps.size := rfl
    refine ⟨rfl, ?_⟩
    simp only [PyData.shown, rsz]
    omega
  | .list xs, h => by
    obtain ⟨a, b⟩ := rOks_ok xs h
    have h2 := listText_len_le (PyData.shownAll xs)
    have h3 := shownAll_len xs
    refine ⟨a, ?_⟩
    simp only [PyData.shown, rsz]
    omega
  | .tuple xs, h => by
    obtain ⟨a, b⟩ := rOks_ok xs h
    have h2 := tupleText_len_le (PyData.shownAll xs)
    have h3 := shownAll_len xs
    refine ⟨a, ?_⟩
    simp only [PyData.shown, rsz]
    omega
  | .dict kvs, h => by
    obtain ⟨a, b⟩ := rOkk_ok kvs h
    have h2 := dictText_len_le (PyData.shownKv kvs)
    have h3 := PyData.shownKv_length kvs
    refine ⟨a, ?_⟩
    simp only [PyData.shown, rsz]
    omega
theorem rOks_ok : ∀ ps : List PyData, rOks ps = true → PyData.showableAll ps = true ∧ ((PyData.shownAll ps).map (·.length)).sum + 2 * ps.length ≤ 1930 * rszs ps
  | [], _ => ⟨rfl, by simp [PyData.shownAll, rszs]⟩
  | p :: ps, h => by
    have h' : rOk p = true ∧ rOks ps = true := by simpa [rOks] using h
    obtain ⟨a1, a2⟩ := rOk_ok p h'.1
    obtain ⟨b1, b2⟩ := rOks_ok ps h'.2
    refine ⟨by simp [PyData.showableAll, a1, b1], ?_⟩
    simp only [PyData.shownAll, rszs, List.map_cons, List.sum_cons, List.length_cons]
    omega
theorem rOkk_ok : ∀ ps : List (PyData × PyData), rOkk ps = true → PyData.showableKv ps = true ∧ ((PyData.shownKv ps).map (·.length)).sum + 2 * ps.length ≤ 1930 * rszk ps
  | [], _ => ⟨rfl, by simp [PyData.shownKv, rszk]⟩
  | (k, v) :: ps, h => by
    have h' : (rOk k = true ∧ rOk v = true) ∧ rOkk ps = true := by simpa [rOkk] using h
    obtain ⟨a1, a2⟩ := rOk_ok k h'.1.1
    obtain ⟨c1, c2⟩ := rOk_ok v h'.1.2
    obtain ⟨b1, b2⟩ := rOkk_ok ps h'.2
    refine ⟨by simp [PyData.showableKv, a1, b1, c1], ?_⟩
    have e2 : (k.shown ++ ": " ++ v.shown).length = k.shown.length + 2 + v.shown.length := by
      rw [strLen_append, strLen_append]
      rfl
    simp only [PyData.shownKv, rszk, List.map_cons, List.sum_cons, List.length_cons]
    omega
end
/-- what repr can show -/
def canShow (p : PyData) : Bool := rOk p && decide (rsz p ≤ 8000) && decide (p.depth ≤ 60) && (!p.hasDict || noLst p)
theorem canShow_len {p : PyData} (h : canShow p = true) : p.shown.length ≤ sizeLine := by
  unfold canShow at h
  simp only [Bool.and_eq_true, decide_eq_true_eq] at h
  have h1 := (rOk_ok p h.1.1.1).2
  have h2 : 1930 * rsz p ≤ 1930 * 8000 := Nat.mul_le_mul_left _ h.1.1.2
  rw [sizeLine_eq]
  omega
def reprW : List D → Option W
  | [d] => match toPy d with
    | some p => if canShow p = true then some (.d (.str p.shown)) else none
    | none => none
  | _ => none
section
variable {K : PySem.W.Frag} {mg : Str → Option Value} {H G : Hp}
theorem RHs.nil {vs : List V} (r : RHs K mg H G [] vs) : vs = [] := by
  cases vs with
  | nil => rfl
  | cons _ _ => exact r.elim
theorem RHs.cons {d : D} {ds : List D} {vs : List V} (r : RHs K mg H G (d :: ds) vs) : ∃ v ws, vs = v :: ws ∧ RH K mg H G d v ∧ RHs K mg H G ds ws := by
  cases vs with
  | nil => exact r.elim
  | cons v ws => exact ⟨v, ws, rfl, r.1, r.2⟩
theorem RHs.one {d : D} {vs : List V} (r : RHs K mg H G [d] vs) : ∃ v, vs = [v] ∧ RH K mg H G d v := by
  obtain ⟨v, ws, e, h, t⟩ := r.cons
  rw [RHs.nil t] at e
  exact ⟨v, e, h⟩
theorem RHs.two {d d' : D} {vs : List V} (r : RHs K mg H G [d, d'] vs) : ∃ v v', vs = [v, v'] ∧ RH K mg H G d v ∧ RH K mg H G d' v' := by
  obtain ⟨v, ws, e, h, t⟩ := r.cons
  obtain ⟨v', e', h'⟩ := RHs.one t
  rw [e'] at e
  exact ⟨v, v', e, h, h'⟩
theorem blsD_ok : ∀ {ds : List D} {bs : List Bool} {vs : List V}, blsD ds = some bs → RVs K mg G ds vs → vs = bs.map V.bl
  | [], bs, vs, e, r => by
    have e' : ([] : List Bool) = bs := Option.some.inj e
    subst e'
    exact r
  | .bl b :: ds, bs, vs, e, ⟨y, ys, ey, ry, rys⟩ => by
    obtain ⟨cs, h1, h2⟩ := Option.map_eq_some_iff.mp (show (blsD ds).map (b :: ·) = some bs from e)
    subst h2 ey
    rw [show y = .bl b from ry, blsD_ok h1 rys]
    rfl
  | .non :: _, _, _, e, _ => nomatch e
  | .int _ :: _, _, _, e, _ => nomatch e
  | .str _ :: _, _, _, e, _ => nomatch e
  | .ty _ :: _, _, _, e, _ => nomatch e
  | .tup _ :: _, _, _, e, _ => nomatch e
  | .lst _ :: _, _, _, e, _ => nomatch e
  | .dct _ :: _, _, _, e, _ => nomatch e
  | .obj _ _ :: _, _, _, e, _ => nomatch e
  | .fn _ :: _, _, _, e, _ => nomatch e
  | .scr _ :: _, _, _, e, _ => nomatch e
end
section
variable {X : Cx}
theorem call_lenP : CallR X (.builtin "len") (rPn X.K X.mg lenW) := by
  intro pins s σ H xs us Q I r h
  obtain ⟨G, ds, w, sub, ra, e, k⟩ := h
  unfold lenW at e
  split at e
  · have e' := Option.some.inj e
    subst e'
    obtain ⟨v, rfl, p, ys, rfl, hq, rs⟩ := ra.one
    exact call_len_seq pins s σ H _ us Q I r ⟨p, ys, rfl, .inr (sqT_mono sub hq), k _ H G (Al.here sub (by rw [rs.length]; rfl))⟩
  · have e' := Option.some.inj e
    subst e'
    obtain ⟨v, rfl, p, ys, rfl, hq, rs⟩ := ra.one
    exact call_len_seq pins s σ H _ us Q I r ⟨p, ys, rfl, .inl (SqL.of hq), k _ H G (Al.here sub (by rw [rs.length]; rfl))⟩
  · have e' := Option.some.inj e
    subst e'
    obtain ⟨v, rfl, p, ys, rfl, hq, rs⟩ := ra.one
    exact call_lenD pins s σ H _ us Q I r ⟨p, ys, rfl, hq, k _ H G (Al.here sub (by rw [rs.length]; rfl))⟩
  · split at e
    · rename_i hz
      have e' := Option.some.inj e
      subst e'
      obtain ⟨v, rfl, ev⟩ := ra.one
      cases (show v = .str _ from ev)
      exact call_len_str pins s σ H _ us Q I r ⟨_, rfl, sizeOk_le hz, k _ H G (Al.here sub rfl)⟩
    · cases e
  · cases e
theorem call_absP : CallR X (.builtin "abs") (rPn X.K X.mg absW) := by
  intro pins s σ H xs us Q I r h
  obtain ⟨G, ds, w, sub, ra, e, k⟩ := h
  unfold absW at e
  split at e
  · have e' := Option.some.inj e
    subst e'
    obtain ⟨v, rfl, ev⟩ := ra.one
    cases (show v = .int _ from ev)
    exact call_abs pins s σ H _ us Q I r ⟨_, rfl, k _ H G (Al.here sub rfl)⟩
  · cases e
theorem call_intP : CallR X (.type "int") (rPn X.K X.mg intW) := by
  intro pins s σ H xs us Q I r h
  obtain ⟨G, ds, w, sub, ra, e, k⟩ := h
  unfold intW at e
  split at e
  · have e' := Option.some.inj e
    subst e'
    obtain ⟨v, rfl, ev⟩ := ra.one
    cases (show v = .int _ from ev)
    exact call_int1 pins s σ H _ us Q I r (.inl ⟨_, rfl, k _ H G (Al.here sub rfl)⟩)
  · have e' := Option.some.inj e
    subst e'
    obtain ⟨v, rfl, ev⟩ := ra.one
    cases (show v = .bl _ from ev)
    exact call_int1 pins s σ H _ us Q I r (.inr ⟨_, rfl, k _ H G (Al.here sub rfl)⟩)
  · cases e
theorem call_gcdP : CallR X (.builtin "math.gcd") (rPn X.K X.mg gcdW) := by
  intro pins s σ H xs us Q I r h
  obtain ⟨G, ds, w, sub, ra, e, k⟩ := h
  unfold gcdW at e
  split at e
  · have e' := Option.some.inj e
    subst e'
    obtain ⟨v, v', rfl, ev, ev'⟩ := ra.two
    cases (show v = .int _ from ev)
    cases (show v' = .int _ from ev')
    exact cr_gcd pins s σ H _ us Q I r ⟨_, _, rfl, k _ H G (Al.here sub rfl)⟩
  · cases e
theorem call_maxP (hc : X.calm = true) : CallR X (.builtin "max") (rPn X.K X.mg max2W) := by
  intro pins s σ H xs us Q I r h
  obtain ⟨G, ds, w, sub, ra, e, k⟩ := h
  unfold max2W at e
  split at e
  · have e' := Option.some.inj e
    subst e'
    obtain ⟨v, v', rfl, ev, ev'⟩ := ra.two
    cases (show v = .int _ from ev)
    cases (show v' = .int _ from ev')
    exact call_max2 hc pins s σ H _ us Q I r ⟨_, _, rfl, k _ H G (Al.here sub rfl)⟩
  · cases e
theorem call_minP (hc : X.calm = true) : CallR X (.builtin "min") (rPn X.K X.mg min2W) := by
  intro pins s σ H xs us Q I r h
  obtain ⟨G, ds, w, sub, ra, e, k⟩ := h
  unfold min2W at e
  split at e
  · have e' := Option.some.inj e
    subst e'
    obtain ⟨v, v', rfl, ev, ev'⟩ := ra.two
    cases (show v = .int _ from ev)
    cases (show v' = .int _ from ev')
    exact call_min2 hc pins s σ H _ us Q I r ⟨_, _, rfl, k _ H G (Al.here sub rfl)⟩
  · cases e
theorem call_allP (hc : X.calm = true) : CallR X (.builtin "all") (rPn X.K X.mg allW) := by
  intro pins s σ H xs us Q I r h
  obtain ⟨G, ds, w, sub, ra, e, k⟩ := h
  unfold allW at e
  split at e
  · obtain ⟨bs, h1, h2⟩ := Option.map_eq_some_iff.mp e
    subst h2
    obtain ⟨v, rfl, p, ys, rfl, hq, rs⟩ := ra.one
    have ey := blsD_ok h1 rs
    subst ey
    exact cr_all hc pins s σ H _ us Q I r ⟨p, bs, rfl, SqL.of hq, k _ H G (Al.here sub rfl)⟩
  · cases e
theorem call_anyP (hc : X.calm = true) : CallR X (.builtin "any") (rPn X.K X.mg anyW) := by
  intro pins s σ H xs us Q I r h
  obtain ⟨G, ds, w, sub, ra, e, k⟩ := h
  unfold anyW at e
  split at e
  · obtain ⟨bs, h1, h2⟩ := Option.map_eq_some_iff.mp e
    subst h2
    obtain ⟨v, rfl, p, ys, rfl, hq, rs⟩ := ra.one
    have ey := blsD_ok h1 rs
    subst ey
    exact cr_any hc pins s σ H _ us Q I r ⟨p, bs, rfl, SqL.of hq, k _ H G (Al.here sub rfl)⟩
  · cases e
theorem call_listP : CallR X (.type "list") (rPn X.K X.mg listW) := by
  intro pins s σ H xs us Q I r h
  obtain ⟨G, ds, w, sub, ra, e, k⟩ := h
  unfold listW at e
  split at e
  · have e' := Option.some.inj e
    subst e'
    obtain ⟨v, rfl, p, ys, rfl, hq, rs⟩ := ra.one
    exact call_list_of pins s σ H _ us Q I r ⟨p, ys, rfl, .inr (sqT_mono sub hq), fun l hl => k _ _ _ (Al.lst sub hl rs)⟩
  · have e' := Option.some.inj e
    subst e'
    obtain ⟨v, rfl, p, ys, rfl, hq, rs⟩ := ra.one
    exact call_list_of pins s σ H _ us Q I r ⟨p, ys, rfl, .inl (SqL.of hq), fun l hl => k _ _ _ (Al.lst sub hl rs)⟩
  · have e' := Option.some.inj e
    subst e'
    obtain ⟨v, rfl, p, rfl, hq⟩ := ra.one
    exact call_list_of pins s σ H _ us Q I r ⟨p, _, rfl, .inl (sqL_mono sub hq), fun l hl => k _ _ _ (Al.lst sub hl (RVs.of_ints _))⟩
  · cases e
theorem call_tupleP : CallR X (.type "tuple") (rPn X.K X.mg tupleW) := by
  intro pins s σ H xs us Q I r h
  obtain ⟨G, ds, w, sub, ra, e, k⟩ := h
  unfold tupleW at e
  split at e
  · have e' := Option.some.inj e
    subst e'
    obtain ⟨v, rfl, p, ys, rfl, hq, rs⟩ := ra.one
    exact call_tuple_of pins s σ H _ us Q I r ⟨p, ys, rfl, .inr ⟨sqT_mono sub hq, k _ H G (Al.here sub ⟨p, ys, rfl, hq, rs⟩)⟩⟩
  · have e' := Option.some.inj e
    subst e'
    obtain ⟨v, rfl, p, ys, rfl, hq, rs⟩ := ra.one
    exact call_tuple_of pins s σ H _ us Q I r ⟨p, ys, rfl, .inl ⟨SqL.of hq, fun l hl => k _ _ _ (Al.tup sub hl rs)⟩⟩
  · cases e
theorem call_reprP (hg : X.A.guards = some []) (hu : X.A.units + 200 < cLine) : CallR X (.builtin "repr") (rPn X.K X.mg reprW) := by
  intro pins s σ H xs us Q I r h
  obtain ⟨G, ds, w, sub, ra, e, k⟩ := h
  unfold reprW at e
  split at e
  · split at e
    · rename_i d p hp
      split at e
      · rename_i hs
        have e' := Option.some.inj e
        subst e'
        obtain ⟨v, rfl, rv⟩ := ra.one
        obtain ⟨u, rfl, ru⟩ := vals1 r
        obtain ⟨as, rd, hn⟩ := RH.reads I sub hp rv ru
        have hl := canShow_len hs
        have hs2 := hs
        unfold canShow at hs2
        simp only [Bool.and_eq_true, decide_eq_true_eq, Bool.or_eq_true, Bool.not_eq_true'] at hs2
        obtain ⟨⟨⟨h1, h2⟩, h3⟩, h4⟩ := hs2
        have hsh := (rOk_ok p h1).1
        have hsm : p.hasDict = true → sysModules ∉ as := fun z => by
          rcases h4 with h4 | h4
          · rw [z] at h4; cases h4
          · exact hn h4
        have q := k (.str p.shown) H G (Al.here sub rfl)
        cases rd with
        | none => exact PySem.P.repr_of_none ⟨.str _, H, I.tok _, ⟨_, rfl⟩, q⟩
        | bool b => exact PySem.P.repr_of_bool ⟨.str _, H, I.tok _, ⟨_, rfl⟩, q⟩
        | int i t => exact PySem.P.repr_of_int (of_decide_eq_true h1) ⟨.str _, H, I.tok _, ⟨_, rfl⟩, q⟩
        | str x t => exact PySem.P.repr_of_str ⟨.str _, H, I.tok _, ⟨_, rfl⟩, q⟩ hl
        | list a1 a2 a3 a4 => exact repr_of_reads' (Reads.list a1 a2 a3 a4) hsh hsm hg (by omega) (fun _ _ z => z) (fun h' u tk hk => ⟨.str _, H, I.kept hk, ⟨u, rfl⟩, q⟩) hl
        | tuple a1 a2 a3 a4 => exact repr_of_reads' (Reads.tuple a1 a2 a3 a4) hsh hsm hg (by omega) (fun _ _ z => z) (fun h' u tk hk => ⟨.str _, H, I.kept hk, ⟨u, rfl⟩, q⟩) hl
        | dict a1 a2 a3 a4 a5 => exact repr_of_reads' (Reads.dict a1 a2 a3 a4 a5) hsh hsm hg (by omega) (fun _ _ z => z) (fun h' u tk hk => ⟨.str _, H, I.kept hk, ⟨u, rfl⟩, q⟩) hl
      · cases e
    · cases e
  · cases e
end
end FL
set_option Elab.async false
set_option linter.all false
set_option maxRecDepth 100000
set_option maxHeartbeats 2000000
namespace FL
open PySem PySem.Spec L2
open PyProof.Rows hiding St
inductive Fl where
  | nx | ret (w : W) | brk | cont
def GoS (K : PySem.W.Frag) (mg : Str → Option Value) (Wx : WX) (io : List Nat) (σ : St) (ρ : Rho) (H G : Hp) (r : Res Fl) (D : Ends) : Prop :=
  match r with
  | .ok .nx ρ' => ∀ σ' H' G', Rel K mg σ' ρ' H' G' → Fr io σ ρ H G σ' ρ' H' G' → D.nx σ' H'
  | .ok .brk ρ' => ∀ σ' H' G', Rel K mg σ' ρ' H' G' → Fr io σ ρ H G σ' ρ' H' G' → D.bk σ' H'
  | .ok .cont ρ' => ∀ σ' H' G', Rel K mg σ' ρ' H' G' → Fr io σ ρ H G σ' ρ' H' G' → D.ct σ' H'
  | .ok (.ret w) ρ' => ∀ v σ' H' G', Rel K mg σ' ρ' H' G' → Fr io σ ρ H G σ' ρ' H' G' → RR K mg σ ρ H σ' ρ' H' G' v w → D.rt v H'
  | .exc c fs ρ' => ∀ cls od σ' H' G', Rel K mg σ' ρ' H' G' → Fr io σ ρ H G σ' ρ' H' G' → RX K mg H' G' cls od c fs → Wx cls od σ' H'
  | .bad => False
def tS (K : PySem.W.Frag) (mg : Str → Option Value) (Wx : WX) (io : List Nat) (m : M Fl) : TS := fun D σ H => ∃ ρ G, Rel K mg σ ρ H G ∧ GoS K mg Wx io σ ρ H G (m ρ) D
abbrev PMS (X : Cx) (Wx : WX) (io : List Nat) (st : Stmt) (m : M Fl) : Prop := PS X st (tS X.K X.mg Wx io m)
abbrev PMSs (X : Cx) (Wx : WX) (io : List Nat) (st : List Stmt) (m : M Fl) : Prop := PSs X st (tS X.K X.mg Wx io m)
section
variable {K : PySem.W.Frag} {mg : Str → Option Value} {Wx : WX} {io : List Nat} {σ σ1 σ2 : St} {ρ ρ1 ρ2 : Rho} {H H1 H2 G G1 G2 : Hp} {Q : VK} {En : Ends}
theorem GoS.shift {r : Res Fl} (f : Fr io σ ρ H G σ1 ρ1 H1 G1) (h : GoS K mg Wx io σ ρ H G r En) : GoS K mg Wx io σ1 ρ1 H1 G1 r En := by
  cases r with
  | ok w ρ' =>
    cases w with
    | nx => exact fun σ' H' G' R F => h σ' H' G' R (f.trans F)
    | brk => exact fun σ' H' G' R F => h σ' H' G' R (f.trans F)
    | cont => exact fun σ' H' G' R F => h σ' H' G' R (f.trans F)
    | ret w => exact fun v σ' H' G' R F r => h v σ' H' G' R (f.trans F) (RR.back f F.grow r)
  | exc c fs ρ' => exact fun cls od σ' H' G' R F r => h cls od σ' H' G' R (f.trans F) r
  | bad => exact h
/-- an expression's part within a statement: exceptions -/
theorem exc_up {c : Str} {fs : List (Str × FL.D)} {ρ' : Rho} (h : GoS K mg Wx io σ ρ H G (.exc c fs ρ') En) (Q : VK) : GoE K mg Wx σ ρ H G (.exc c fs ρ') Q :=
  fun cls od H' G' R F r => h cls od σ H' G' R F.io_nil r
theorem tM_bindS {m : M W} {f : W → M Fl} (R : Rel K mg σ ρ H G) (h : GoS K mg Wx io σ ρ H G ((m ρ).bind f) En) :
    tM K mg Wx m σ H fun v H1 => ∃ w ρ1 G1, Rel K mg σ ρ1 H1 G1 ∧ Fr io σ ρ H G σ ρ1 H1 G1 ∧ RR K mg σ ρ H σ ρ1 H1 G1 v w ∧ GoS K mg Wx io σ ρ H G (f w ρ1) En := by
  refine ⟨ρ, G, R, ?_⟩
  cases e : m ρ with
  | ok w ρ1 => rw [e] at h; exact fun v H' G' R' F' r => ⟨w, ρ1, G', R', F'.io_nil, r, h⟩
  | exc c fs ρ1 => rw [e] at h; exact exc_up h _
  | bad => rw [e] at h; exact h.elim
theorem tM_datS {m : M W} {f : FL.D → M Fl} (R : Rel K mg σ ρ H G) (h : GoS K mg Wx io σ ρ H G ((m ρ).dat f) En) :
    tM K mg Wx m σ H fun v H1 => ∃ x ρ1 G1, Rel K mg σ ρ1 H1 G1 ∧ RV K mg G1 x v ∧ Fr io σ ρ H G σ ρ1 H1 G1 ∧ GoS K mg Wx io σ ρ1 H1 G1 (f x ρ1) En := by
  refine ⟨ρ, G, R, ?_⟩
  cases e : m ρ with
  | ok w ρ1 =>
    rw [e] at h
    intro v H' G' R' F' r
    obtain ⟨G2, R2, F2, rv⟩ := keep_res R' F' r
    exact ⟨w.data, ρ1, G2, R2, rv, F2.io_nil, GoS.shift F2.io_nil h⟩
  | exc c fs ρ1 => rw [e] at h; exact exc_up h _
  | bad => rw [e] at h; exact h.elim
theorem tA_bindS {m : M A} {f : A → M Fl} (R : Rel K mg σ ρ H G) (h : GoS K mg Wx io σ ρ H G ((m ρ).bind f) En) :
    tA K mg Wx m σ H fun v H1 => ∃ a ρ1 G1, Rel K mg σ ρ1 H1 G1 ∧ RAt K mg σ G1 v a ∧ Fr io σ ρ H G σ ρ1 H1 G1 ∧ GoS K mg Wx io σ ρ1 H1 G1 (f a ρ1) En := by
  refine ⟨ρ, G, R, ?_⟩
  cases e : m ρ with
  | ok w ρ1 => rw [e] at h; exact fun v H' G' R' F' r => ⟨w, ρ1, G', R', r, F'.io_nil, GoS.shift F'.io_nil h⟩
  | exc c fs ρ1 => rw [e] at h; exact fun cls od H' G' R F r => h cls od σ H' G' R F.io_nil r
  | bad => rw [e] at h; exact h.elim
theorem tB2_bindS {m : M Bool} {f : Bool → M Fl} (R : Rel K mg σ ρ H G) (h : GoS K mg Wx io σ ρ H G ((m ρ).bind f) En) :
    tB2 K mg Wx m σ H fun b H1 => ∃ ρ1 G1, Rel K mg σ ρ1 H1 G1 ∧ Fr io σ ρ H G σ ρ1 H1 G1 ∧ GoS K mg Wx io σ ρ1 H1 G1 (f b ρ1) En := by
  refine ⟨ρ, G, R, ?_⟩
  cases e : m ρ with
  | ok w ρ1 => rw [e] at h; exact fun H' G' R' F' => ⟨ρ1, G', R', F'.io_nil, GoS.shift F'.io_nil h⟩
  | exc c fs ρ1 => rw [e] at h; exact fun cls od H' G' R F r => h cls od σ H' G' R F.io_nil r
  | bad => rw [e] at h; exact h.elim
/-- a slot is stored -/
theorem Rel.store {i : Nat} {v : V} {w : W} (R : Rel K mg σ1 ρ1 H1 G1) (F : Fr io σ ρ H G σ1 ρ1 H1 G1) (rw' : RW K mg H1 G1 v w) (ap : ∀ x a, w = .own x → v = .ref a → ¬ OwnS σ1 ρ1 a ∧ ∀ o, H a = some o → OwnS σ ρ a) (hi : i ∉ io) :
    Rel K mg (σ1.set i (some v)) (ρ1.set i (some w)) H1 G1 ∧ Fr io σ ρ H G (σ1.set i (some v)) (ρ1.set i (some w)) H1 G1 := by
  have at_ : ∀ (j : Nat) (u : W), (ρ1.set i (some w))[j]? = some (some u) → (j = i ∧ u = w ∧ i < ρ1.length) ∨ (j ≠ i ∧ ρ1[j]? = some (some u)) := fun j u h => by
    by_cases hj : j = i
    · subst hj
      by_cases hl : j < ρ1.length
      · rw [List.getElem?_set_self hl] at h
        cases h
        exact .inl ⟨rfl, rfl, hl⟩
      · rw [List.getElem?_eq_none (by rw [List.length_set]; omega)] at h
        cases h
    · rw [List.getElem?_set_ne (Ne.symm hj)] at h
      exact .inr ⟨hj, h⟩
  have sl : ∀ j, j ≠ i → (σ1.set i (some v))[j]? = σ1[j]? := fun j hj => List.getElem?_set_ne (Ne.symm hj)
  have si : i < ρ1.length → (σ1.set i (some v))[i]? = some (some v) := fun hl => List.getElem?_set_self (by rw [← R.len]; exact hl)
  refine ⟨⟨by rw [List.length_set, List.length_set]; exact R.len, R.sub, fun j u hu => ?_, fun j k x y u h1 h2 h3 h4 => ?_⟩, ⟨F.grow, fun b o hb hg hn => ?_, fun j hj => ?_, by rw [List.length_set]; exact F.len⟩⟩
  · rcases at_ j u hu with ⟨rfl, rfl, hl⟩ | ⟨hj, hu'⟩
    · exact ⟨v, si hl, rw'⟩
    · rw [sl j hj]
      exact R.slot j u hu'
  · rcases at_ j _ h1 with ⟨ej, e1, hl⟩ | ⟨hj, h1'⟩
    · rcases at_ k _ h2 with ⟨ek, _, _⟩ | ⟨hk, h2'⟩
      · rw [ej, ek]
      · exfalso
        subst ej e1
        rw [si hl] at h3
        have ev : v = u := by simpa using h3
        subst ev
        rw [sl k hk] at h4
        obtain ⟨a, ea, _⟩ := rw'
        exact (ap x a rfl ea).1 ⟨k, y, h2', by rw [h4, ea]⟩
    · rcases at_ k _ h2 with ⟨ek, e2, hl⟩ | ⟨hk, h2'⟩
      · exfalso
        subst ek e2
        rw [si hl] at h4
        have ev : v = u := by simpa using h4
        subst ev
        rw [sl j hj] at h3
        obtain ⟨a, ea, _⟩ := rw'
        exact (ap y a rfl ea).1 ⟨j, x, h1', by rw [h3, ea]⟩
      · rw [sl j hj] at h3
        rw [sl k hk] at h4
        exact R.dis j k x y u h1' h2' h3 h4
  · obtain ⟨k1, k2, k3⟩ := F.keep b o hb hg hn
    refine ⟨k1, k2, fun ⟨j, x, h1, h2⟩ => ?_⟩
    rcases at_ j _ h1 with ⟨ej, e1, hl⟩ | ⟨hj, h1'⟩
    · subst ej e1
      rw [si hl] at h2
      have ev : v = .ref b := by simpa using h2
      exact hn ((ap x b rfl ev).2 o hb)
    · rw [sl j hj] at h2
      exact k3 ⟨j, x, h1', h2⟩
  · have hne : j ≠ i := fun e => hi (e ▸ hj)
    rw [sl j hne]
    exact F.fix j hj
/-- a slot is let go -/
theorem Rel.drop {i : Nat} (R : Rel K mg σ1 ρ1 H1 G1) (F : Fr io σ ρ H G σ1 ρ1 H1 G1) : Rel K mg σ1 (ρ1.set i none) H1 G1 ∧ Fr io σ ρ H G σ1 (ρ1.set i none) H1 G1 := by
  have at_ : ∀ (j : Nat) (u : W), (ρ1.set i none)[j]? = some (some u) → j ≠ i ∧ ρ1[j]? = some (some u) := fun j u h => by
    by_cases hj : j = i
    · subst hj
      by_cases hl : j < ρ1.length
      · rw [List.getElem?_set_self hl] at h
        cases h
      · rw [List.getElem?_eq_none (by rw [List.length_set]; omega)] at h
        cases h
    · rw [List.getElem?_set_ne (Ne.symm hj)] at h
      exact ⟨hj, h⟩
  refine ⟨⟨by rw [List.length_set]; exact R.len, R.sub, fun j u hu => R.slot j u (at_ j u hu).2, fun j k x y u h1 h2 h3 h4 => R.dis j k x y u (at_ j _ h1).2 (at_ k _ h2).2 h3 h4⟩, ⟨F.grow, fun b o hb hg hn => ?_, F.fix, F.len⟩⟩
  obtain ⟨k1, k2, k3⟩ := F.keep b o hb hg hn
  exact ⟨k1, k2, fun ⟨j, x, h1, h2⟩ => k3 ⟨j, x, (at_ j _ h1).2, h2⟩⟩
end
def Res.flow (r : Res Fl) (f : M Fl) : Res Fl :=
  match r with
  | .ok .nx ρ => f ρ
  | r => r
def nextM : M Fl := fun ρ => .ok .nx ρ
def seqM (m n : M Fl) : M Fl := fun ρ => (m ρ).flow n
def dropM (m : M W) : M Fl := fun ρ => (m ρ).bind fun _ ρ => .ok .nx ρ
def retM (m : M W) : M Fl := fun ρ => (m ρ).bind fun w ρ => .ok (.ret w) ρ
def retS (io : List Nat) (i : Nat) : M Fl := fun ρ =>
  match ρ[i]? with
  | some (some (.d x)) => .ok (.ret (.d x)) ρ
  | some (some (.own x)) => if io.contains i = true then .bad else .ok (.ret (.own x)) (ρ.set i none)
  | _ => .bad
def retN : M Fl := fun ρ => .ok (.ret (.d .non)) ρ
def ifS (t : M Bool) (m n : M Fl) : M Fl := fun ρ => (t ρ).bind fun b ρ => if b = true then m ρ else n ρ
def setM (io : List Nat) (i : Nat) (m : M W) : M Fl := fun ρ => (m ρ).bind fun w ρ => if io.contains i = true then .bad else .ok .nx (ρ.set i (some w))
section
variable {X : Cx} {Wx : WX} {io : List Nat} {e a b c : Expr} {st : Stmt} {sts : List Stmt} {pos : Pos} {m : M W} {s n : M Fl}
theorem pms_nil : PMSs X Wx io [] nextM := pssImp pss_nil fun D σ H h => by
  obtain ⟨ρ, G, R, h⟩ := h
  exact h σ H G R Fr.refl
theorem pms_cons (h1 : PMS X Wx io st s) (h2 : PMSs X Wx io sts n) : PMSs X Wx io (st :: sts) (seqM s n) := by
  refine pssImp (pss_cons h1 h2) fun D σ H h => ?_
  obtain ⟨ρ, G, R, h⟩ := h
  refine ⟨ρ, G, R, ?_⟩
  unfold seqM at h
  cases e : s ρ with
  | ok f ρ1 =>
    rw [e] at h
    cases f with
    | nx => exact fun σ' H' G' R' F' => ⟨ρ1, G', R', GoS.shift F' h⟩
    | brk => exact h
    | cont => exact h
    | ret w => exact h
  | exc c fs ρ1 => rw [e] at h; exact h
  | bad => rw [e] at h; exact h
theorem pms_pass : PMS X Wx io (.Pass pos) nextM := psImp ps_pass fun D σ H h => by
  obtain ⟨ρ, G, R, h⟩ := h
  exact h σ H G R Fr.refl
theorem pms_break : PMS X Wx io (.Break pos) (fun ρ => .ok .brk ρ) := psImp ps_break fun D σ H h => by
  obtain ⟨ρ, G, R, h⟩ := h
  exact h σ H G R Fr.refl
theorem pms_continue : PMS X Wx io (.Continue pos) (fun ρ => .ok .cont ρ) := psImp ps_continue fun D σ H h => by
  obtain ⟨ρ, G, R, h⟩ := h
  exact h σ H G R Fr.refl
theorem pms_expr (he : PM X Wx e m) (hs : swapsWith e none pos.line X.env = pure false) : PMS X Wx io (.Expr e pos) (dropM m) := psImp (ps_expr he hs) fun D σ H h => by
  obtain ⟨ρ, G, R, h⟩ := h
  exact tM_mono (tM_bindS R h) fun v H1 ⟨w, ρ1, G1, R1, F1, r, k⟩ => k σ H1 G1 R1 F1
theorem pms_ret (he : PM X Wx e m) : PMS X Wx io (.Return (some e) pos) (retM m) := psImp (ps_ret he) fun D σ H h => by
  obtain ⟨ρ, G, R, h⟩ := h
  exact tM_mono (tM_bindS R h) fun v H1 ⟨w, ρ1, G1, R1, F1, r, k⟩ => k v σ H1 G1 R1 F1 r
theorem pms_retN : PMS X Wx io (.Return none pos) retN := psImp ps_retN fun D σ H h => by
  obtain ⟨ρ, G, R, h⟩ := h
  exact h .non σ H G R Fr.refl ⟨rfl, fun _ _ z => nomatch z⟩
theorem pms_retS {i : Nat} {x : Str} {p : Pos} (hN : X.N[i]? = some x) (hv : Vis X.env.scope x) (hd : (x == ("__debug__" : Str)) = false) (hcd : (x == ("__classdict__" : Str)) = false) : PMS X Wx io (.Return (some (.Name x p)) pos) (retS io i) := by
  refine psImp (ps_ret (pe_var hN hv hd hcd)) fun D σ H h => ?_
  obtain ⟨ρ, G, R, h⟩ := h
  unfold retS at h
  split at h
  · rename_i y hy
    obtain ⟨v, s, q⟩ := R.slot i _ hy
    exact ⟨v, s, h v σ H G R Fr.refl ⟨q, fun _ _ z => nomatch z⟩⟩
  · rename_i y hy
    split at h
    · exact h.elim
    · obtain ⟨v, s, q⟩ := R.slot i _ hy
      obtain ⟨R2, F2⟩ := R.drop (io := io) (i := i) Fr.refl
      refine ⟨v, s, h v σ H G R2 F2 ⟨q, fun z a e1 e2 => ⟨fun ⟨j, t, h1, h2⟩ => ?_, fun o ho => ⟨i, y, hy, by rw [s, e2]⟩⟩⟩⟩
      have hj : j ≠ i := fun ej => by
        subst ej
        by_cases hl : j < ρ.length
        · rw [List.getElem?_set_self hl] at h1
          cases h1
        · rw [List.getElem?_eq_none (by rw [List.length_set]; omega)] at h1
          cases h1
      rw [List.getElem?_set_ne (Ne.symm hj)] at h1
      exact hj (R.dis j i t y v h1 hy (by rw [h2, e2]) s)
  · exact h.elim
theorem pms_if {t : M Bool} {sts2 : List Stmt} (ht : PMB X Wx c t) (h1 : PMSs X Wx io sts s) (h2 : PMSs X Wx io sts2 n) : PMS X Wx io (.If c sts sts2 pos) (ifS t s n) := by
  refine psImp (ps_if ht h1 h2) fun D σ H h => ?_
  obtain ⟨ρ, G, R, h⟩ := h
  refine tB2_mono (tB2_bindS R h) fun k H1 ⟨ρ1, G1, R1, F1, g⟩ => ?_
  cases k with
  | true => exact iteT ⟨ρ1, G1, R1, g⟩
  | false => exact iteF ⟨ρ1, G1, R1, g⟩
theorem not_io {io : List Nat} {i : Nat} (h : ¬ (io.contains i = true)) : i ∉ io := fun z => h (by simpa using z)
theorem pms_set {i : Nat} {x : Str} {p : Pos} (hN : X.N.Nodup) (hi : X.N[i]? = some x) (hx : Loc X.env.scope x) (he : PM X Wx e m) (hs : swapsWith e (some (.Name x p)) pos.line X.env = pure false) (hf : X.fn x = true ∨ X.env.scope.names.lookup x = some .local) :
    PMS X Wx io (.Assign [.Name x p] e pos) (setM io i m) := by
  refine psImp (ps_set hN hi hx he hs hf) fun D σ H h => ?_
  obtain ⟨ρ, G, R, h⟩ := h
  refine tM_mono (tM_bindS (io := io) R h) fun v H1 ⟨w, ρ1, G1, R1, F1, r, k⟩ => ?_
  split at k
  · exact k.elim
  · rename_i hn
    obtain ⟨R2, F2⟩ := R1.store F1 r.1 (fun x a e1 e2 => r.2 x a e1 e2) (not_io hn)
    exact k _ H1 G1 R2 F2
def tG (K : PySem.W.Frag) (mg : Str → Option Value) (io : List Nat) (g : D → M Unit) : TG := fun v σ H Q =>
  ∃ ρ G d, Rel K mg σ ρ H G ∧ RV K mg G d v ∧ match g d ρ with
    | .ok _ ρ' => ∀ σ' H' G', Rel K mg σ' ρ' H' G' → Fr io σ ρ H G σ' ρ' H' G' → Q σ' H'
    | _ => False
def tGs (K : PySem.W.Frag) (mg : Str → Option Value) (io : List Nat) (g : List D → M Unit) : TGs := fun vs σ H Q =>
  ∃ ρ G ds, Rel K mg σ ρ H G ∧ RVs K mg G ds vs ∧ match g ds ρ with
    | .ok _ ρ' => ∀ σ' H' G', Rel K mg σ' ρ' H' G' → Fr io σ ρ H G σ' ρ' H' G' → Q σ' H'
    | _ => False
abbrev PMG (X : Cx) (io : List Nat) (tg : Expr) (g : D → M Unit) : Prop := PG X tg (tG X.K X.mg io g)
abbrev PMGs (X : Cx) (io : List Nat) (tg : List Expr) (g : List D → M Unit) : Prop := PGs X tg (tGs X.K X.mg io g)
theorem pgImp {X : Cx} {tg : Expr} {t t' : TG} (h : PG X tg t) (w : ∀ v σ H Q, t' v σ H Q → t v σ H Q) : PG X tg t' := ⟨fun pins s σ H v u Q I r q => h.run pins s σ H v u Q I r (w v σ H Q q)⟩
theorem pgsImp {X : Cx} {tg : List Expr} {t t' : TGs} (h : PGs X tg t) (w : ∀ v σ H Q, t' v σ H Q → t v σ H Q) : PGs X tg t' := ⟨fun pins s σ H v u Q I r q => h.run pins s σ H v u Q I r (w v σ H Q q)⟩
def nameG (io : List Nat) (i : Nat) : D → M Unit := fun d ρ => if io.contains i = true then .bad else .ok () (ρ.set i (some (.d d)))
def nilG : List D → M Unit := fun ds ρ => match ds with
  | [] => .ok () ρ
  | _ => .bad
def consG (g : D → M Unit) (r : List D → M Unit) : List D → M Unit := fun ds ρ => match ds with
  | [] => .bad
  | d :: ds => (g d ρ).bind fun _ ρ => r ds ρ
def tupG (n : Nat) (g : List D → M Unit) : D → M Unit := fun d ρ => match d with
  | .tup ds => if ds.length = n then g ds ρ else .bad
  | _ => .bad
theorem pmg_name {i : Nat} {x : Str} {p : Pos} (hN : X.N.Nodup) (hi : X.N[i]? = some x) (hx : Loc X.env.scope x) (hf : X.fn x = true ∨ X.env.scope.names.lookup x = some .local) : PMG X io (.Name x p) (nameG io i) := by
  refine pgImp (pg_name hN hi hx hf) fun v σ H Q h => ?_
  obtain ⟨ρ, G, d, R, rv, h⟩ := h
  unfold nameG at h
  split at h
  · rename_i u ρ' e
    split at e
    · cases e
    · rename_i hn
      cases e
      obtain ⟨R2, F2⟩ := R.store (σ := σ) (ρ := ρ) (H := H) (G := G) (io := io) (i := i) (v := v) (w := .d d) Fr.refl rv (fun x a z => nomatch z) (not_io hn)
      exact h _ H G R2 F2
  · exact h.elim
theorem pmgs_nil : PMGs X io [] nilG := by
  refine pgsImp pgs_nil fun v σ H Q h => ?_
  obtain ⟨ρ, G, ds, R, rv, h⟩ := h
  unfold nilG at h
  split at h
  · rename_i u ρ' e
    split at e
    · cases e
      exact ⟨rv, h σ H G R Fr.refl⟩
    · cases e
  · exact h.elim
theorem pmgs_cons {es : List Expr} {g : D → M Unit} {r : List D → M Unit} (h1 : PMG X io e g) (h2 : PMGs X io es r) (hs : (assignEach (e :: es) X.env).map (·.2) = assign e X.env :: (assignEach es X.env).map (·.2)) : PMGs X io (e :: es) (consG g r) := by
  refine pgsImp (pgs_cons h1 h2 hs) fun v σ H Q h => ?_
  obtain ⟨ρ, G, ds, R, rv, h⟩ := h
  cases ds with
  | nil => exact h.elim
  | cons d ds =>
    obtain ⟨y, ys, ev, ry, rys⟩ := rv
    refine ⟨y, ys, ev, ρ, G, d, R, ry, ?_⟩
    have h' : match ((g d ρ).bind fun _ ρ => r ds ρ) with
      | .ok _ ρ' => ∀ σ' H' G', Rel X.K X.mg σ' ρ' H' G' → Fr io σ ρ H G σ' ρ' H' G' → Q σ' H'
      | _ => False := h
    cases e1 : g d ρ with
    | ok u ρ1 =>
      rw [e1] at h'
      intro σ1 H1 G1 R1 F1
      refine ⟨ρ1, G1, ds, R1, RVs.mono F1.grow ds ys rys, ?_⟩
      have h2' : match r ds ρ1 with
        | .ok _ ρ' => ∀ σ' H' G', Rel X.K X.mg σ' ρ' H' G' → Fr io σ ρ H G σ' ρ' H' G' → Q σ' H'
        | _ => False := h'
      cases e2 : r ds ρ1 with
      | ok u2 ρ2 =>
        rw [e2] at h2'
        exact fun σ' H' G' R' F' => h2' σ' H' G' R' (F1.trans F')
      | exc c fs ρ2 => rw [e2] at h2'; exact h2'
      | bad => rw [e2] at h2'; exact h2'
    | exc c fs ρ2 => rw [e1] at h'; exact h'
    | bad => rw [e1] at h'; exact h'
theorem pmg_tup {es : List Expr} {k n : Nat} {g : List D → M Unit} (hc : X.calm = true) (h : PMGs X io es g) (hn : (assignEach es X.env).length = n) (hst : (assignEach es X.env).findIdx? (·.1) = none) : PMG X io (.Tuple es k pos) (tupG n g) := by
  refine pgImp (pg_tup hc h hn hst) fun v σ H Q h => ?_
  obtain ⟨ρ, G, d, R, rv, h⟩ := h
  cases d with
  | tup ds =>
    obtain ⟨a, xs, ev, hq, rs⟩ := rv
    have h' : match (if ds.length = n then g ds ρ else Res.bad) with
      | .ok _ ρ' => ∀ σ' H' G', Rel X.K X.mg σ' ρ' H' G' → Fr io σ ρ H G σ' ρ' H' G' → Q σ' H'
      | _ => False := h
    by_cases hl : ds.length = n
    · rw [if_pos hl] at h'
      exact ⟨a, xs, ev, sqT_mono R.sub hq, by rw [← rs.length]; exact hl, ρ, G, ds, R, rs, h'⟩
    · rw [if_neg hl] at h'
      exact h'.elim
  | _ => exact h.elim
/-- target = e -/
def asgM (g : D → M Unit) (m : M W) : M Fl := fun ρ => (m ρ).dat fun x ρ => (g x ρ).bind fun _ ρ => .ok .nx ρ
theorem pms_asg {tg : Expr} {g : D → M Unit} (he : PM X Wx e m) (hg : PMG X io tg g) (hs : swapsWithSole [tg] e pos.line X.env = pure false) (hw : swappedStores [tg] e X.env = pure none) (h1 : (assignEach [tg] X.env).map (·.2) = [assign tg X.env])
    (hx : ∀ d ρ c fs ρ', g d ρ ≠ .exc c fs ρ') : PMS X Wx io (.Assign [tg] e pos) (asgM g m) := by
  refine psImp (ps_asg he hg hs hw h1) fun D σ H h => ?_
  obtain ⟨ρ, G, R, h⟩ := h
  refine tM_mono (tM_datS R h) fun v H1 ⟨x, ρ1, G1, R1, rv, F1, k⟩ => ⟨ρ1, G1, x, R1, rv, ?_⟩
  have k' : GoS X.K X.mg Wx io σ ρ1 H1 G1 ((g x ρ1).bind fun _ ρ => .ok .nx ρ) D := k
  cases e1 : g x ρ1 with
  | ok u ρ2 =>
    rw [e1] at k'
    exact fun σ' H' G' R' F' => k' σ' H' G' R' F'
  | exc c fs ρ2 => exact absurd e1 (hx _ _ _ _ _)
  | bad => rw [e1] at k'; exact k'
def Res.loop (r : Res Fl) (f : M Fl) : Res Fl :=
  match r with
  | .ok .nx ρ => f ρ
  | .ok .cont ρ => f ρ
  | .ok .brk ρ => .ok .nx ρ
  | r => r
def whileM (t : M Bool) (b : M Fl) : Nat → M Fl
  | 0 => fun _ => .bad
  | n + 1 => fun ρ => (t ρ).bind fun c ρ => if c = true then (b ρ).loop (whileM t b n) else .ok .nx ρ
theorem pms_while {t : M Bool} {n : Nat} (hp : PassesOwn (model X.prog X.w) X.A X.env X.xe) (hc : PMB X Wx c t) (hb : PMSs X Wx io sts s) : PMS X Wx io (.While c sts [] pos) (whileM t s n) := by
  refine psImp (ps_while hp hc hb) fun D σ H h => ?_
  refine ⟨fun k σ H => ∃ ρ G, Rel X.K X.mg σ ρ H G ∧ GoS X.K X.mg Wx io σ ρ H G (whileM t s k ρ) D, ⟨n, h⟩, fun k σ H h => ?_⟩
  obtain ⟨ρ, G, R, h⟩ := h
  cases k with
  | zero => exact h.elim
  | succ k =>
    refine tB2_mono (tB2_bindS R h) fun cc H1 ⟨ρ1, G1, R1, F1, g⟩ => ?_
    cases cc with
    | true =>
      refine iteT ⟨fun σ' H' => ∃ ρ G, Rel X.K X.mg σ' ρ H' G ∧ GoS X.K X.mg Wx io σ' ρ H' G (whileM t s k ρ) D, fun σ' H' h' => ⟨k, Nat.lt_succ_self k, h'⟩, ρ1, G1, R1, ?_⟩
      have g' : GoS X.K X.mg Wx io σ ρ1 H1 G1 ((s ρ1).loop (whileM t s k)) D := g
      cases e : s ρ1 with
      | ok f ρ2 =>
        rw [e] at g'
        cases f with
        | nx => exact fun σ' H' G' R' F' => ⟨ρ2, G', R', GoS.shift F' g'⟩
        | cont => exact fun σ' H' G' R' F' => ⟨ρ2, G', R', GoS.shift F' g'⟩
        | brk => exact fun σ' H' G' R' F' => g' σ' H' G' R' F'
        | ret w => exact g'
      | exc c fs ρ2 => rw [e] at g'; exact g'
      | bad => rw [e] at g'; exact g'
    | false => exact iteF (g σ H1 G1 R1 Fr.refl)
/-- the walk J gives the data ds, one after another, as long as what is kept at G0 stands -/
structure WalkD (K : PySem.W.Frag) (mg : Str → Option Value) (J : It) (ds : List D) (G0 : Hp) : Prop where
  ex : ∃ (n : Nat) (Gp : Hp → Prop) (Y : Nat → Hp → V → Hp → Prop), Walk J n Gp Y ∧ n = ds.length ∧ (∀ H, SubH G0 H → Gp H) ∧
    ∀ i H x H' G, SubH G0 G → SubH G H → i < n → Y i H x H' → ∃ d G', ds[i]? = some d ∧ Al K mg H G H' G' x (.d d)
def GoI (K : PySem.W.Frag) (mg : Str → Option Value) (Wx : WX) (σ : St) (ρ : Rho) (H G : Hp) (r : Res (List D)) (Rk : It → Hp → Prop) : Prop :=
  match r with
  | .ok ds ρ' => ∀ J H' G', Rel K mg σ ρ' H' G' → Fr [] σ ρ H G σ ρ' H' G' → WalkD K mg J ds G' → Rk J H'
  | .exc c fs ρ' => ∀ cls od H' G', Rel K mg σ ρ' H' G' → Fr [] σ ρ H G σ ρ' H' G' → RX K mg H' G' cls od c fs → Wx cls od σ H'
  | .bad => False
def tI (K : PySem.W.Frag) (mg : Str → Option Value) (Wx : WX) (m : M (List D)) : TI := fun σ H Rk => ∃ ρ G, Rel K mg σ ρ H G ∧ GoI K mg Wx σ ρ H G (m ρ) Rk
abbrev PMI (X : Cx) (Wx : WX) (tg it : Expr) (m : M (List D)) : Prop := PI X tg it (tI X.K X.mg Wx m)
theorem piImp {X : Cx} {tg it : Expr} {t t' : TI} (h : PI X tg it t) (w : ∀ σ H R, t' σ H R → t σ H R) : PI X tg it t' := ⟨fun pins s σ H R I q => h.run pins s σ H R I (w σ H R q)⟩
def forM (g : D → M Unit) (b : M Fl) : List D → M Fl
  | [] => nextM
  | x :: xs => fun ρ => (g x ρ).bind fun _ ρ => (b ρ).loop (forM g b xs)
def forS (mi : M (List D)) (g : D → M Unit) (b : M Fl) : M Fl := fun ρ => (mi ρ).bind fun ds ρ => forM g b ds ρ
theorem pms_for {it tg : Expr} {mi : M (List D)} {g : D → M Unit} (hp : PassesOwn (model X.prog X.w) X.A X.env X.xe) (hc : X.calm = true) (hi : PMI X Wx tg it mi) (hg : PMG X io tg g) (hb : PMSs X Wx io sts s)
    (hs : ∀ x, foldedSetIterable it X.env x = pure x) (hx : ∀ d ρ c fs ρ', g d ρ ≠ .exc c fs ρ') : PMS X Wx io (.For tg it sts [] pos) (forS mi g s) := by
  refine psImp (ps_for hp hc hi hg hb hs) fun D σ H h => ?_
  obtain ⟨ρ, G, R, h⟩ := h
  refine ⟨ρ, G, R, ?_⟩
  unfold forS at h
  cases e : mi ρ with
  | exc c fs ρ1 => rw [e] at h; exact fun cls od H' G' R F r => h cls od σ H' G' R F.io_nil r
  | bad => rw [e] at h; exact h.elim
  | ok ds ρ1 =>
    rw [e] at h
    intro J H1 G1 R1 F1 Wd
    have h1 : GoS X.K X.mg Wx io σ ρ1 H1 G1 (forM g s ds ρ1) D := GoS.shift F1.io_nil h
    obtain ⟨n, Gp, Y, wk, en, hG, hY⟩ := Wd.ex
    refine for_it wk (fun i σ' H' => ∃ ρ' G', Rel X.K X.mg σ' ρ' H' G' ∧ SubH G1 G' ∧ GoS X.K X.mg Wx io σ' ρ' H' G' (forM g s (ds.drop i) ρ') D) ⟨ρ1, G1, R1, SubH.refl, by rw [List.drop_zero]; exact h1⟩ (fun i σ' H' _ ⟨ρ', G', R', sg, _⟩ => hG H' (sg.trans R'.sub)) ?_ ?_
    · intro i x σ' H' H2 hin ⟨ρ', G', R', sg, k⟩ y
      obtain ⟨d, G2, hd, al⟩ := hY i H' x H2 G' sg R'.sub hin y
      obtain ⟨R2, F2, rv⟩ := R'.al al
      have hlt : i < ds.length := by omega
      have ed : ds.drop i = d :: ds.drop (i + 1) := by
        rw [List.drop_eq_getElem_cons hlt]
        congr 1
        rw [List.getElem?_eq_getElem hlt] at hd
        exact Option.some.inj hd
      rw [ed] at k
      have k2 : GoS X.K X.mg Wx io σ' ρ' H2 G2 ((g d ρ').bind fun _ ρ => (s ρ).loop (forM g s (ds.drop (i + 1)))) D := GoS.shift F2.io_nil k
      refine ⟨ρ', G2, d, R2, rv.1, ?_⟩
      cases eg : g d ρ' with
      | exc c fs ρ2 => exact absurd eg (hx _ _ _ _ _)
      | bad => rw [eg] at k2; exact k2
      | ok u ρ2 =>
        rw [eg] at k2
        intro σ3 H3 G3 R3 F3
        have k3 : GoS X.K X.mg Wx io σ3 ρ2 H3 G3 ((s ρ2).loop (forM g s (ds.drop (i + 1)))) D := GoS.shift F3 k2
        refine ⟨ρ2, G3, R3, ?_⟩
        have sg3 : SubH G1 G3 := (sg.trans F2.grow).trans F3.grow
        cases es : s ρ2 with
        | ok f ρ4 =>
          rw [es] at k3
          cases f with
          | nx => exact fun σ5 H5 G5 R5 F5 => ⟨ρ4, G5, R5, sg3.trans F5.grow, GoS.shift F5 k3⟩
          | cont => exact fun σ5 H5 G5 R5 F5 => ⟨ρ4, G5, R5, sg3.trans F5.grow, GoS.shift F5 k3⟩
          | brk => exact fun σ5 H5 G5 R5 F5 => k3 σ5 H5 G5 R5 F5
          | ret w => exact k3
        | exc c fs ρ4 => rw [es] at k3; exact k3
        | bad => rw [es] at k3; exact k3
    · intro σ' H' ⟨ρ', G', R', sg, k⟩
      rw [List.drop_eq_nil_of_le (by omega)] at k
      exact k σ' H' G' R' Fr.refl
end
end FL
set_option Elab.async false
set_option linter.all false
set_option maxRecDepth 100000
set_option maxHeartbeats 2000000
namespace FL
open PySem PySem.Spec L2
open PyProof.Rows hiding St
def signsD (z : Str) : List D := z.cps.toList.map fun c => .str ⟨#[c]⟩
def itemsD : D → Option (List D)
  | .tup ds => some ds
  | .lst ds => some ds
  | .scr ns => some (ns.map .int)
  | .str z => some (signsD z)
  | _ => none
def iterM (m : M W) : M (List D) := fun ρ => (m ρ).dat fun d ρ => liftM (itemsD d) ρ
section
variable {K : PySem.W.Frag} {mg : Str → Option Value} {Wx : WX} {σ : St} {ρ : Rho} {H G : Hp}
theorem WalkD.lst {a : Addr} {ds : List D} {xs : List V} (hq : SqL K G a xs) (r : RVs K mg G ds xs) : WalkD K mg (Itl K a) ds G :=
  ⟨xs.length, fun H => SqL K H a xs, YAt xs, walk_list, r.length.symm, fun H s => sqL_mono s hq, fun i H x H' G' s1 s2 hi y => by
    obtain ⟨e1, e2⟩ := y
    subst e1
    have hl : i < ds.length := by rw [r.length]; exact hi
    obtain ⟨v, h1, h2⟩ := r.get (List.getElem?_eq_getElem hl)
    rw [e2] at h1
    cases h1
    exact ⟨_, G', List.getElem?_eq_getElem hl, Al.here s2 (RV.mono s1 _ _ h2)⟩⟩
theorem WalkD.tup {a : Addr} {ds : List D} {xs : List V} (hq : SqT K G a xs) (r : RVs K mg G ds xs) : WalkD K mg (Itt K a) ds G :=
  ⟨xs.length, fun H => SqT K H a xs, YAt xs, walk_tup, r.length.symm, fun H s => sqT_mono s hq, fun i H x H' G' s1 s2 hi y => by
    obtain ⟨e1, e2⟩ := y
    subst e1
    have hl : i < ds.length := by rw [r.length]; exact hi
    obtain ⟨v, h1, h2⟩ := r.get (List.getElem?_eq_getElem hl)
    rw [e2] at h1
    cases h1
    exact ⟨_, G', List.getElem?_eq_getElem hl, Al.here s2 (RV.mono s1 _ _ h2)⟩⟩
theorem WalkD.str {z : Str} : WalkD K mg (Its z) (signsD z) G :=
  ⟨z.cps.size, fun _ => True, _, walk_str, by simp [signsD], fun _ _ => True.intro, fun i H x H' G' s1 s2 hi y => by
    obtain ⟨e1, c, e2, e3⟩ := y
    subst e1 e3
    refine ⟨.str ⟨#[c]⟩, G', ?_, Al.here s2 rfl⟩
    unfold signsD
    rw [List.getElem?_map, Array.getElem?_toList, e2]
    rfl⟩
theorem WalkD.rng {lo : Int} {n : Nat} : WalkD K mg (Itr lo n) ((List.range n).map fun i => .int (lo + (i : Nat))) G :=
  ⟨n, fun _ => True, _, walk_range, by simp, fun _ _ => True.intro, fun i H x H' G' s1 s2 hi y => by
    obtain ⟨e1, e2⟩ := y
    subst e1 e2
    exact ⟨.int (lo + (i : Nat)), G', by simp [hi], Al.here s2 rfl⟩⟩
theorem WalkD.rngC {lo c : Int} {n : Nat} : WalkD K mg (Itc lo c n) ((List.range n).map fun i => .int (lo + (i : Nat) * c)) G :=
  ⟨n, fun _ => True, _, walk_rangeC, by simp, fun _ _ => True.intro, fun i H x H' G' s1 s2 hi y => by
    obtain ⟨e1, e2⟩ := y
    subst e1 e2
    exact ⟨.int (lo + (i : Nat) * c), G', by simp [hi], Al.here s2 rfl⟩⟩
theorem GoI.shift {r : Res (List D)} {Rk : It → Hp → Prop} {ρ1 : Rho} {H1 G1 : Hp} (f : Fr [] σ ρ H G σ ρ1 H1 G1) (h : GoI K mg Wx σ ρ H G r Rk) : GoI K mg Wx σ ρ1 H1 G1 r Rk := by
  cases r with
  | ok w ρ' => exact fun J H' G' R F w => h J H' G' R (f.trans F) w
  | exc c fs ρ' => exact fun cls od H' G' R F r => h cls od H' G' R (f.trans F) r
  | bad => exact h
/-- a walked value, reckoned: what it is is known ahead -/
theorem tM_known {m : M W} {P : D → Prop} {Q : VK} (R : Rel K mg σ ρ H G) (hm : ∃ w ρ1, m ρ = .ok w ρ1 ∧ P w.data)
    (h : ∀ x v ρ1 H1 G1, P x → Rel K mg σ ρ1 H1 G1 → Fr [] σ ρ H G σ ρ1 H1 G1 → RV K mg G1 x v → (∃ w, m ρ = .ok w ρ1 ∧ w.data = x) → Q v H1) : tM K mg Wx m σ H Q := by
  refine ⟨ρ, G, R, ?_⟩
  obtain ⟨w, ρ1, e, p⟩ := hm
  rw [e]
  intro v H' G' R' F' r
  obtain ⟨G2, R2, F2, rv⟩ := keep_res R' F' r
  exact h w.data v ρ1 H' G2 p R2 F2 rv ⟨w, e, rfl⟩
end
theorem piOr {X : Cx} {tg e : Expr} {t1 t2 : TI} (h1 : PI X tg e t1) (h2 : PI X tg e t2) : PI X tg e (fun σ H R => t1 σ H R ∨ t2 σ H R) :=
  ⟨fun pins s σ H R I q => q.elim (h1.run pins s σ H R I) (h2.run pins s σ H R I)⟩
section
variable {X : Cx} {Wx : WX} {io : List Nat} {e a b c tg : Expr} {pos : Pos} {m : M W}
theorem pmi_data (he : PM X Wx e m) : PMI X Wx tg e (iterM m) := by
  refine piImp (piOr (pi_list he) (piOr (pi_tup he) (pi_str he))) fun σ H Rk h => ?_
  obtain ⟨ρ, G, R, h⟩ := h
  cases em : m ρ with
  | bad =>
    unfold iterM at h
    rw [em] at h
    exact h.elim
  | exc c fs ρ1 =>
    unfold iterM at h
    rw [em] at h
    exact .inl ⟨ρ, G, R, by rw [em]; exact h⟩
  | ok w ρ1 =>
    have h1 : GoI X.K X.mg Wx σ ρ H G (liftM (itemsD w.data) ρ1) Rk := by
      unfold iterM at h
      rw [em] at h
      exact h
    unfold liftM at h1
    split at h1
    · rename_i items ei
      have fin : ∀ (J : It) (ρ2 : Rho) (H1 G1 : Hp), (∃ w', m ρ = .ok w' ρ2 ∧ w'.data = w.data) → Rel X.K X.mg σ ρ2 H1 G1 → Fr [] σ ρ H G σ ρ2 H1 G1 → WalkD X.K X.mg J items G1 → Rk J H1 := fun J ρ2 H1 G1 ⟨w', e', _⟩ R1 F1 Wd => by
        rw [em] at e'
        cases e'
        exact h1 J H1 G1 R1 F1 Wd
      unfold itemsD at ei
      split at ei
      · rename_i ds ed
        have e' := Option.some.inj ei
        subst e'
        refine .inr (.inl (tM_known (P := fun x => x = .tup ds) R ⟨w, ρ1, em, ed⟩ fun x v ρ2 H1 G1 px R1 F1 rv k => ?_))
        subst px
        obtain ⟨p, xs, ev, hq, rs⟩ := rv
        rw [← ed] at k
        exact ⟨p, ev, ⟨xs, sqT_mono R1.sub hq⟩, fin _ ρ2 H1 G1 k R1 F1 (WalkD.tup hq rs)⟩
      · rename_i ds ed
        have e' := Option.some.inj ei
        subst e'
        refine .inl (tM_known (P := fun x => x = .lst ds) R ⟨w, ρ1, em, ed⟩ fun x v ρ2 H1 G1 px R1 F1 rv k => ?_)
        subst px
        obtain ⟨p, xs, ev, hq, rs⟩ := rv
        rw [← ed] at k
        exact ⟨p, ev, ⟨xs, SqL.of (R1.sub _ _ hq)⟩, fin _ ρ2 H1 G1 k R1 F1 (WalkD.lst (SqL.of hq) rs)⟩
      · rename_i ns ed
        have e' := Option.some.inj ei
        subst e'
        refine .inl (tM_known (P := fun x => x = .scr ns) R ⟨w, ρ1, em, ed⟩ fun x v ρ2 H1 G1 px R1 F1 rv k => ?_)
        subst px
        obtain ⟨p, ev, hq⟩ := rv
        rw [← ed] at k
        exact ⟨p, ev, ⟨_, sqL_mono R1.sub hq⟩, fin _ ρ2 H1 G1 k R1 F1 (WalkD.lst hq (RVs.of_ints ns))⟩
      · rename_i z ed
        have e' := Option.some.inj ei
        subst e'
        refine .inr (.inr (tM_known (P := fun x => x = .str z) R ⟨w, ρ1, em, ed⟩ fun x v ρ2 H1 G1 px R1 F1 rv k => ?_))
        subst px
        rw [← ed] at k
        exact ⟨z, rv, fin _ ρ2 H1 G1 k R1 F1 WalkD.str⟩
      · cases ei
    · exact h1.elim
def rgOk (i : Int) : Bool := decide (-(2 ^ 62) ≤ i ∧ i < 2 ^ 62)
def range1D : List D → Option (List D)
  | [.int j] => if rgOk j = true then some ((List.range j.toNat).map fun i => .int (0 + ((i : Nat) : Int))) else none
  | _ => none
def range2D : List D → Option (List D)
  | [.int i, .int j] => if (rgOk i && rgOk j) = true then some ((List.range (j - i).toNat).map fun k => .int (i + ((k : Nat) : Int))) else none
  | _ => none
def iterL (φ : List D → Option (List D)) (ms : M (List D)) : M (List D) := fun ρ => (ms ρ).bind fun ds ρ => liftM (φ ds) ρ
theorem tL_bindI {K : PySem.W.Frag} {mg : Str → Option Value} {σ : St} {ρ : Rho} {H G : Hp} {m : M (List D)} {f : List D → M (List D)} {Rk : It → Hp → Prop} (R : Rel K mg σ ρ H G) (h : GoI K mg Wx σ ρ H G ((m ρ).bind f) Rk) :
    tL K mg Wx m σ H fun v H1 => ∃ a ρ1 G1, Rel K mg σ ρ1 H1 G1 ∧ RVs K mg G1 a v ∧ Fr [] σ ρ H G σ ρ1 H1 G1 ∧ GoI K mg Wx σ ρ1 H1 G1 (f a ρ1) Rk := by
  refine ⟨ρ, G, R, ?_⟩
  cases e : m ρ with
  | ok w ρ1 => rw [e] at h; exact fun v H' G' R' F' r => ⟨w, ρ1, G', R', r, F', GoI.shift F' h⟩
  | exc c fs ρ1 => rw [e] at h; exact h
  | bad => rw [e] at h; exact h.elim
theorem rgOk_le {i : Int} (h : rgOk i = true) : -(2 ^ 62) ≤ i ∧ i < 2 ^ 62 := of_decide_eq_true h
theorem pmi_range1 {p : Pos} {ms : M (List D)} (hg : Gl X "range") (hm : X.mg "range" = none) (ha : PML X Wx [a] ms) (hs : starEach [a] X.env = [(false, eval a X.env)]) : PMI X Wx tg (.Call (.Name "range" p) [a] [] pos) (iterL range1D ms) := by
  refine piImp (pi_range1 hg hm ha hs) fun σ H Rk h => ?_
  obtain ⟨ρ, G, R, h⟩ := h
  refine tL_mono (tL_bindI R h) fun vs H1 ⟨ds, ρ1, G1, R1, rv, F1, k⟩ => ?_
  unfold liftM at k
  split at k
  · rename_i items ei
    unfold range1D at ei
    split at ei
    · split at ei
      · rename_i j hj
        have e' := Option.some.inj ei
        subst e'
        obtain ⟨y, ys, ev, ry, rys⟩ := rv
        cases (show y = .int j from ry)
        cases (show ys = [] from rys)
        obtain ⟨h1, h2⟩ := rgOk_le hj
        exact ⟨j, ev, h1, h2, k _ H1 G1 R1 Fr.refl WalkD.rng⟩
      · cases ei
    · cases ei
  · exact k.elim
theorem pmi_range2 {p : Pos} {ms : M (List D)} (hg : Gl X "range") (hm : X.mg "range" = none) (ha : PML X Wx [a, b] ms) (hs : starEach [a, b] X.env = [(false, eval a X.env), (false, eval b X.env)]) (hs2 : starEach [b] X.env = [(false, eval b X.env)]) :
    PMI X Wx tg (.Call (.Name "range" p) [a, b] [] pos) (iterL range2D ms) := by
  refine piImp (pi_range2 hg hm ha hs hs2) fun σ H Rk h => ?_
  obtain ⟨ρ, G, R, h⟩ := h
  refine tL_mono (tL_bindI R h) fun vs H1 ⟨ds, ρ1, G1, R1, rv, F1, k⟩ => ?_
  unfold liftM at k
  split at k
  · rename_i items ei
    unfold range2D at ei
    split at ei
    · split at ei
      · rename_i i j hj
        rw [Bool.and_eq_true] at hj
        have e' := Option.some.inj ei
        subst e'
        obtain ⟨y, ys, ev, ry, z, zs, ev2, rz, rzs⟩ := rv
        cases (show y = .int i from ry)
        cases (show z = .int j from rz)
        cases (show zs = [] from rzs)
        subst ev2
        obtain ⟨h1, h2⟩ := rgOk_le hj.1
        obtain ⟨h3, h4⟩ := rgOk_le hj.2
        exact ⟨i, j, ev, ⟨h1, h2, h3, h4⟩, k _ H1 G1 R1 Fr.refl WalkD.rng⟩
      · cases ei
    · cases ei
  · exact k.elim
def wipeR (ρ : Rho) : List Nat → Rho
  | [] => ρ
  | i :: vs => (wipeR ρ vs).set i none
/-- the slots of vs as in ρ, all others as in ρ' -/
def mergeR (ρ ρ' : Rho) : List Nat → Rho
  | [] => ρ'
  | i :: vs => (mergeR ρ ρ' vs).set i (ρ.getD i none)
def lcLoop (g : D → M Unit) (t : M Bool) (el : M W) (vs : List Nat) : List D → List D → M W
  | [], acc => fun ρ => .ok (.own (.lst acc)) ρ
  | x :: xs, acc => fun ρ => match g x (wipeR ρ vs) with
    | .ok _ ρ1 => match t ρ1 with
      | .ok true ρ2 => match el ρ2 with
        | .ok w ρ3 => if sizeOk (acc.length + 1) = true then lcLoop g t el vs xs (acc ++ [w.data]) (mergeR ρ ρ3 vs) else .bad
        | _ => .bad
      | .ok false ρ2 => lcLoop g t el vs xs acc (mergeR ρ ρ2 vs)
      | _ => .bad
    | _ => .bad
def lcM (mi : M (List D)) (g : D → M Unit) (t : M Bool) (el : M W) (vs : List Nat) : M W := fun ρ => (mi ρ).bind fun ds ρ => lcLoop g t el vs ds [] ρ
def yesM : M Bool := fun ρ => .ok true ρ
section
variable {σ : St} {ρ ρ' : Rho}
theorem wipeR_len : ∀ vs : List Nat, (wipeR ρ vs).length = ρ.length
  | [] => rfl
  | i :: vs => by unfold wipeR; rw [List.length_set]; exact wipeR_len vs
theorem mergeR_len (h : ρ'.length = ρ.length) : ∀ vs : List Nat, (mergeR ρ ρ' vs).length = ρ.length
  | [] => h
  | i :: vs => by unfold mergeR; rw [List.length_set]; exact mergeR_len h vs
theorem wipeR_some {j : Nat} {w : W} : ∀ {vs : List Nat}, (wipeR ρ vs)[j]? = some (some w) → j ∉ vs ∧ ρ[j]? = some (some w)
  | [], h => ⟨by simp, h⟩
  | i :: vs, h => by
    unfold wipeR at h
    by_cases hj : j = i
    · subst hj
      exfalso
      by_cases hl : j < (wipeR ρ vs).length
      · rw [List.getElem?_set_self hl] at h
        cases h
      · rw [List.getElem?_eq_none (by rw [List.length_set]; omega)] at h
        cases h
    · rw [List.getElem?_set_ne (Ne.symm hj)] at h
      obtain ⟨h1, h2⟩ := wipeR_some h
      exact ⟨by simp [hj, h1], h2⟩
theorem wipe_out2 {j : Nat} : ∀ {vs : List Nat}, j ∉ vs → (wipe σ vs)[j]? = σ[j]?
  | [], _ => rfl
  | i :: vs, h => by
    have h' : j ≠ i ∧ j ∉ vs := by simpa using h
    show ((wipe σ vs).set i none)[j]? = σ[j]?
    rw [List.getElem?_set_ne (Ne.symm h'.1)]
    exact wipe_out2 h'.2
theorem mergeR_in {j : Nat} (hl : ρ'.length = ρ.length) : ∀ {vs : List Nat}, j ∈ vs → (mergeR ρ ρ' vs)[j]? = ρ[j]?
  | [], h => by simp at h
  | i :: vs, h => by
    unfold mergeR
    by_cases hj : j = i
    · subst hj
      by_cases hb : j < ρ.length
      · rw [List.getElem?_set_self (by rw [mergeR_len hl]; exact hb), List.getD_eq_getElem?_getD, List.getElem?_eq_getElem hb]
        rfl
      · rw [List.getElem?_eq_none (by rw [List.length_set, mergeR_len hl]; omega), List.getElem?_eq_none (by omega)]
    · rw [List.getElem?_set_ne (Ne.symm hj)]
      exact mergeR_in hl (by simpa [hj] using h)
theorem mergeR_out {j : Nat} : ∀ {vs : List Nat}, j ∉ vs → (mergeR ρ ρ' vs)[j]? = ρ'[j]?
  | [], _ => rfl
  | i :: vs, h => by
    have h' : j ≠ i ∧ j ∉ vs := by simpa using h
    unfold mergeR
    rw [List.getElem?_set_ne (Ne.symm h'.1)]
    exact mergeR_out h'.2
theorem wipe_len2 : ∀ vs : List Nat, (wipe σ vs).length = σ.length
  | [] => rfl
  | i :: vs => by
    show ((wipe σ vs).set i none).length = σ.length
    rw [List.length_set]
    exact wipe_len2 vs
theorem wipe_in {j : Nat} : ∀ {vs : List Nat}, j ∈ vs → j < σ.length → (wipe σ vs)[j]? = some none
  | [], h, _ => by simp at h
  | i :: vs, h, hb => by
    show ((wipe σ vs).set i none)[j]? = some none
    by_cases hj : j = i
    · subst hj
      exact List.getElem?_set_self (by rw [wipe_len2]; exact hb)
    · rw [List.getElem?_set_ne (Ne.symm hj)]
      exact wipe_in (by simpa [hj] using h) hb
/-- the slots outside vs are the same -/
theorem wipe_same {σ2 : St} {vs : List Nat} (hl : σ2.length = σ.length) (h : ∀ j, j ∉ vs → σ2[j]? = σ[j]?) : wipe σ2 vs = wipe σ vs := by
  apply List.ext_getElem?
  intro j
  by_cases hj : j ∈ vs
  · by_cases hb : j < σ.length
    · rw [wipe_in hj (by omega), wipe_in hj hb]
    · rw [List.getElem?_eq_none (by rw [wipe_len2]; omega), List.getElem?_eq_none (by rw [wipe_len2]; omega)]
  · rw [wipe_out2 hj, wipe_out2 hj]
    exact h j hj
end
/-- the slots of the frame but those of vs -/
def outs (n : Nat) (vs : List Nat) : List Nat := (List.range n).filter fun j => !vs.contains j
theorem mem_outs {n : Nat} {vs : List Nat} {j : Nat} (h1 : j < n) (h2 : j ∉ vs) : j ∈ outs n vs := by
  unfold outs
  simp [h1, h2]
section
variable {K : PySem.W.Frag} {mg : Str → Option Value} {σ σ2 : St} {ρ ρ1 ρ2 : Rho} {H H2 G G2 : Hp} {vs : List Nat}
theorem Rel.wiped (R : Rel K mg σ ρ H G) (vs : List Nat) : Rel K mg (wipe σ vs) (wipeR ρ vs) H G :=
  ⟨by rw [wipeR_len, wipe_len2]; exact R.len, R.sub, fun i w hw => by
    obtain ⟨h1, h2⟩ := wipeR_some hw
    obtain ⟨v, s, q⟩ := R.slot i w h2
    exact ⟨v, by rw [wipe_out2 h1]; exact s, q⟩, fun i j x y v h1 h2 h3 h4 => by
    obtain ⟨a1, a2⟩ := wipeR_some h1
    obtain ⟨b1, b2⟩ := wipeR_some h2
    rw [wipe_out2 a1] at h3
    rw [wipe_out2 b1] at h4
    exact R.dis i j x y v a2 b2 h3 h4⟩
theorem OwnS.of_wiped {b : Addr} (h : OwnS (wipe σ vs) (wipeR ρ vs) b) : OwnS σ ρ b := by
  obtain ⟨i, x, h1, h2⟩ := h
  obtain ⟨a1, a2⟩ := wipeR_some h1
  rw [wipe_out2 a1] at h2
  exact ⟨i, x, a2, h2⟩
/-- behind a turn of the block -/
theorem Rel.merged (R : Rel K mg σ ρ H G) (R2 : Rel K mg σ2 ρ2 H2 G2) (F : Fr (outs σ.length vs) (wipe σ vs) (wipeR ρ vs) H G σ2 ρ2 H2 G2) :
    Rel K mg σ (mergeR ρ ρ2 vs) H2 G2 ∧ Fr [] σ ρ H G σ (mergeR ρ ρ2 vs) H2 G2 ∧ wipe σ2 vs = wipe σ vs := by
  have hlen : σ2.length = σ.length := by rw [F.len, wipe_len2]
  have hl2 : ρ2.length = ρ.length := by rw [R2.len, R.len, hlen]
  have same : ∀ j, j ∉ vs → σ2[j]? = σ[j]? := fun j hj => by
    by_cases hb : j < σ.length
    · rw [F.fix j (mem_outs hb hj), wipe_out2 hj]
    · rw [List.getElem?_eq_none (by omega), List.getElem?_eq_none (by omega)]
  have inn : ∀ (j : Nat) (w : W), (mergeR ρ ρ2 vs)[j]? = some (some w) → (j ∈ vs ∧ ρ[j]? = some (some w)) ∨ (j ∉ vs ∧ ρ2[j]? = some (some w)) := fun j w h => by
    by_cases hj : j ∈ vs
    · rw [mergeR_in hl2 hj] at h
      exact .inl ⟨hj, h⟩
    · rw [mergeR_out hj] at h
      exact .inr ⟨hj, h⟩
  -- an own object of a wiped slot stays
  have stay : ∀ (j : Nat) (x : D) (a : Addr), j ∈ vs → ρ[j]? = some (some (.own x)) → σ[j]? = some (some (.ref a)) → H2 a = H a ∧ G2 a = none ∧ ¬ OwnS σ2 ρ2 a := fun j x a hj h1 h2 => by
    obtain ⟨v, s, q⟩ := R.slot j _ h1
    rw [h2] at s
    cases s
    obtain ⟨a', ea, ga, ro⟩ := q
    cases ea
    obtain ⟨o, ho, _⟩ := ro.there
    have nw : ¬ OwnS (wipe σ vs) (wipeR ρ vs) a := fun ⟨i, y, k1, k2⟩ => by
      obtain ⟨a1, a2⟩ := wipeR_some k1
      rw [wipe_out2 a1] at k2
      have := R.dis i j y x (.ref a) a2 h1 k2 h2
      rw [this] at a1
      exact a1 hj
    obtain ⟨k1, k2, k3⟩ := F.keep a o ho ga nw
    exact ⟨k1.trans ho.symm, k2, k3⟩
  refine ⟨⟨by rw [mergeR_len hl2]; exact R.len, R2.sub, fun j w hw => ?_, fun i j x y v h1 h2 h3 h4 => ?_⟩, ⟨F.grow, fun b o hb hg hn => ?_, fun _ h => absurd h (by simp), rfl⟩, wipe_same hlen same⟩
  · rcases inn j w hw with ⟨hj, h1⟩ | ⟨hj, h1⟩
    · obtain ⟨v, s, q⟩ := R.slot j w h1
      refine ⟨v, s, q.mono F.grow fun x a e1 e2 => ?_⟩
      subst e1 e2
      obtain ⟨k1, k2, _⟩ := stay j x a hj h1 s
      exact ⟨k1, k2⟩
    · obtain ⟨v, s, q⟩ := R2.slot j w h1
      rw [same j hj] at s
      exact ⟨v, s, q⟩
  · rcases inn i _ h1 with ⟨hi, a1⟩ | ⟨hi, a1⟩
    · rcases inn j _ h2 with ⟨hj, b1⟩ | ⟨hj, b1⟩
      · exact R.dis i j x y v a1 b1 h3 h4
      · exfalso
        obtain ⟨v', s, a, ea, _⟩ := R.slot i _ a1
        rw [h3] at s
        cases s
        subst ea
        exact (stay i x a hi a1 h3).2.2 ⟨j, y, b1, by rw [same j hj]; exact h4⟩
    · rcases inn j _ h2 with ⟨hj, b1⟩ | ⟨hj, b1⟩
      · exfalso
        obtain ⟨v', s, a, ea, _⟩ := R.slot j _ b1
        rw [h4] at s
        cases s
        subst ea
        exact (stay j y a hj b1 h4).2.2 ⟨i, x, a1, by rw [same i hi]; exact h3⟩
      · exact R2.dis i j x y v a1 b1 (by rw [same i hi]; exact h3) (by rw [same j hj]; exact h4)
  · obtain ⟨k1, k2, k3⟩ := F.keep b o hb hg fun z => hn z.of_wiped
    refine ⟨k1, k2, fun ⟨j, x, h1, h2⟩ => ?_⟩
    rcases inn j _ h1 with ⟨hj, a1⟩ | ⟨hj, a1⟩
    · exact hn ⟨j, x, a1, h2⟩
    · exact k3 ⟨j, x, a1, by rw [same j hj]; exact h2⟩
end
/-- one clause: [el for tg in it if t] -/
theorem lc_go {mi : M (List D)} {g : D → M Unit} {t : M Bool} {el : M W} {vs : List Nat} {K : PySem.W.Frag} {mg : Str → Option Value} {σ : St} {H : Hp} {Q : VK} (h : tM K mg Wx (lcM mi g t el vs) σ H Q) :
    tLc (tI K mg Wx mi) (tG K mg (outs σ.length vs) g) (tB2 K mg (fun _ _ _ _ => False) t) (tM K mg (fun _ _ _ _ => False) el) vs σ H Q := by
  obtain ⟨ρ, G, R, h⟩ := h
  refine ⟨ρ, G, R, ?_⟩
  unfold lcM at h
  cases e : mi ρ with
  | exc c fs ρ1 => rw [e] at h; exact h
  | bad => rw [e] at h; exact h.elim
  | ok ds ρ1 =>
    rw [e] at h
    intro J H1 G1 R1 F1 Wd L hL
    have h1 : GoE K mg Wx σ ρ1 H1 G1 (lcLoop g t el vs ds [] ρ1) Q := GoE.shift F1 h
    obtain ⟨n, Gp, Y, wk, en, hG, hY⟩ := Wd.ex
    have gL : G1 L = none := by
      cases eg : G1 L with
      | none => rfl
      | some o => have := R1.sub _ _ eg; rw [hL] at this; cases this
    -- a state in which the new list at L holds acc
    let At : List D → Rho → Hp → Hp → Prop := fun acc ρ' H' G' => Rel K mg σ ρ' H' G' ∧ Fr [] σ ρ1 H1 G1 σ ρ' H' G' ∧ G' L = none ∧ ¬ OwnS σ ρ' L ∧ ∃ xs, H' L = some (.lst xs) ∧ RVs K mg G' acc xs
    refine lc_it wk (fun i H' => ∃ acc ρ' G', At acc ρ' H' G' ∧ GoE K mg Wx σ ρ1 H1 G1 (lcLoop g t el vs (ds.drop i) acc ρ') Q) ⟨[], ρ1, G1, ⟨?_, ?_, gL, ?_, [], upd_same, rfl⟩, by rw [List.drop_zero]; exact h1⟩
      (fun i H' _ ⟨acc, ρ', G', A', _⟩ => hG H' (A'.2.1.grow.trans A'.1.sub)) ?_ ?_
    · refine ⟨R1.len, fun b o hb => ?_, fun i w hw => ?_, R1.dis⟩
      · rw [upd_ne (fun z => by rw [z, gL] at hb; cases hb)]
        exact R1.sub b o hb
      · obtain ⟨v, s, q⟩ := R1.slot i w hw
        refine ⟨v, s, q.mono SubH.refl fun x a e1 e2 => ?_⟩
        subst e1 e2
        obtain ⟨a', ea, ga, ro⟩ := q
        cases ea
        obtain ⟨o, ho, _⟩ := ro.there
        exact ⟨upd_ne (ne_of_none ho hL), ga⟩
    · exact ⟨SubH.refl, fun b o hb hg hn => ⟨by rw [upd_ne (ne_of_none hb hL)]; exact hb, hg, hn⟩, fun _ h => absurd h (by simp), rfl⟩
    · intro ⟨i, x, k1, k2⟩
      obtain ⟨v, s, a', ea, ga, ro⟩ := R1.slot i _ k1
      rw [k2] at s
      cases s
      cases ea
      obtain ⟨o, ho, _⟩ := ro.there
      rw [hL] at ho
      cases ho
    · intro i x H' H2 hin ⟨acc, ρ', G', ⟨R', F', g', n', xs, hx, rx⟩, k⟩ y
      obtain ⟨d, G2, hd, al⟩ := hY i H' x H2 G' F'.grow R'.sub hin y
      have hlt : i < ds.length := by omega
      have ed : ds.drop i = d :: ds.drop (i + 1) := by
        rw [List.drop_eq_getElem_cons hlt]
        congr 1
        rw [List.getElem?_eq_getElem hlt] at hd
        exact Option.some.inj hd
      rw [ed] at k
      obtain ⟨R2, F2, rv⟩ := R'.al al
      have F12 := F'.trans F2
      obtain ⟨hx2, g2, n2⟩ := F2.keep L _ hx g' n'
      have rx2 := RVs.mono F2.grow acc xs rx
      have Rw := R2.wiped vs
      -- the turn, told from the wiped slots
      have k1 : GoE K mg Wx σ ρ1 H1 G1 (match g d (wipeR ρ' vs) with
        | .ok _ ρ1 => match t ρ1 with
          | .ok true ρ2 => match el ρ2 with
            | .ok w ρ3 => if sizeOk (acc.length + 1) = true then lcLoop g t el vs (ds.drop (i + 1)) (acc ++ [w.data]) (mergeR ρ' ρ3 vs) else .bad
            | _ => .bad
          | .ok false ρ2 => lcLoop g t el vs (ds.drop (i + 1)) acc (mergeR ρ' ρ2 vs)
          | _ => .bad
        | _ => .bad) Q := k
      refine ⟨wipeR ρ' vs, G2, d, Rw, rv.1, ?_⟩
      have fin : ∀ {σ3 : St} {ρ3 : Rho} {H3 G3 : Hp}, Rel K mg σ3 ρ3 H3 G3 → Fr (outs σ.length vs) (wipe σ vs) (wipeR ρ' vs) H2 G2 σ3 ρ3 H3 G3 →
          Rel K mg σ (mergeR ρ' ρ3 vs) H3 G3 ∧ Fr [] σ ρ1 H1 G1 σ (mergeR ρ' ρ3 vs) H3 G3 ∧ wipe σ3 vs = wipe σ vs ∧ H3 L = some (.lst xs) ∧ G3 L = none ∧ ¬ OwnS σ (mergeR ρ' ρ3 vs) L := fun R3 F3 => by
        obtain ⟨Rm, Fm, es⟩ := R2.merged R3 F3
        obtain ⟨k1, k2, k3⟩ := Fm.keep L _ hx2 g2 n2
        exact ⟨Rm, F12.trans Fm, es, k1, k2, k3⟩
      cases eg : g d (wipeR ρ' vs) with
      | exc c fs ρ2 => rw [eg] at k1; exact k1
      | bad => rw [eg] at k1; exact k1
      | ok u ρ2 =>
        rw [eg] at k1
        have k2 : GoE K mg Wx σ ρ1 H1 G1 (match t ρ2 with
          | .ok true ρ2 => match el ρ2 with
            | .ok w ρ3 => if sizeOk (acc.length + 1) = true then lcLoop g t el vs (ds.drop (i + 1)) (acc ++ [w.data]) (mergeR ρ' ρ3 vs) else .bad
            | _ => .bad
          | .ok false ρ2 => lcLoop g t el vs (ds.drop (i + 1)) acc (mergeR ρ' ρ2 vs)
          | _ => .bad) Q := k1
        clear k1
        intro σ3 H3 G3 R3 F3
        obtain ⟨_, _, es, _⟩ := fin R3 F3
        refine ⟨es, ρ2, G3, R3, ?_⟩
        cases et : t ρ2 with
        | exc c fs ρ4 => rw [et] at k2; exact k2.elim
        | bad => rw [et] at k2; exact k2.elim
        | ok b ρ4 =>
          rw [et] at k2
          intro H4 G4 R4 F4
          have F34 := F3.trans F4.io_nil
          cases b with
          | false =>
            obtain ⟨Rm, Fm, _, hx4, g4, n4⟩ := fin R4 F34
            exact iteF ⟨acc, _, G4, ⟨Rm, Fm, g4, n4, xs, hx4, RVs.mono (F3.grow.trans F4.grow) acc xs rx2⟩, k2⟩
          | true =>
            refine iteT ⟨ρ4, G4, R4, ?_⟩
            have k3 : GoE K mg Wx σ ρ1 H1 G1 (match el ρ4 with
              | .ok w ρ3 => if sizeOk (acc.length + 1) = true then lcLoop g t el vs (ds.drop (i + 1)) (acc ++ [w.data]) (mergeR ρ' ρ3 vs) else .bad
              | _ => .bad) Q := k2
            clear k2
            cases ee : el ρ4 with
            | exc c fs ρ5 => rw [ee] at k3; exact k3.elim
            | bad => rw [ee] at k3; exact k3.elim
            | ok w ρ5 =>
              rw [ee] at k3
              intro v H5 G5 R5 F5 r5
              have k2 : GoE K mg Wx σ ρ1 H1 G1 (if sizeOk (acc.length + 1) = true then lcLoop g t el vs (ds.drop (i + 1)) (acc ++ [w.data]) (mergeR ρ' ρ5 vs) else .bad) Q := k3
              split at k2
              · rename_i hs
                obtain ⟨G6, R6, F6, rv6⟩ := keep_res R5 F5 r5
                have F36 := F34.trans F6.io_nil
                obtain ⟨Rm, Fm, _, hx6, g6, n6⟩ := fin R6 F36
                have rx6 := RVs.mono ((F3.grow.trans F4.grow).trans F6.grow) acc xs rx2
                refine ⟨xs, hx6, by rw [← rx6.length]; exact Nat.lt_of_succ_le (sizeOk_le hs), acc ++ [w.data], _, G6, ⟨⟨Rm.len, fun b o hb => ?_, fun j u hu => ?_, Rm.dis⟩, ⟨Fm.grow, fun b o hb hg hn => ?_, Fm.fix, Fm.len⟩, g6, n6, _, upd_same, rx6.append (RVs.one rv6)⟩, k2⟩
                · rw [upd_ne (fun z => by rw [z, g6] at hb; cases hb)]
                  exact Rm.sub b o hb
                · obtain ⟨z, s, q⟩ := Rm.slot j u hu
                  refine ⟨z, s, q.mono SubH.refl fun y a e1 e2 => ?_⟩
                  subst e1 e2
                  obtain ⟨a', ea, ga, ro⟩ := q
                  cases ea
                  exact ⟨upd_ne fun z => n6 ⟨j, y, hu, by rw [s, z]⟩, ga⟩
                · obtain ⟨a1, a2, a3⟩ := Fm.keep b o hb hg hn
                  exact ⟨by rw [upd_ne (ne_of_none hb hL)]; exact a1, a2, a3⟩
              · exact k2.elim
    · intro H' ⟨acc, ρ', G', ⟨R', F', g', n', xs, hx, rx⟩, k⟩
      rw [List.drop_eq_nil_of_le (by omega)] at k
      exact k (.ref L) H' G' R' F' ⟨⟨L, rfl, g', xs, hx, rx⟩, fun y a e1 e2 => by
        cases e2
        exact ⟨n', fun o ho => by rw [hL] at ho; cases ho⟩⟩
end
end FL
set_option Elab.async false
set_option linter.all false
set_option maxRecDepth 100000
set_option maxHeartbeats 2000000
namespace FL
open PySem PySem.Spec L2
open PyProof.Rows hiding St
/-- a call's answer; outs: what the arguments handed in by reference hold behind it -/
inductive FR where
  | ok (w : W) (outs : List W)
  | exc (c : Str) (fs : List (Str × D)) (outs : List W)
  | bad
abbrev FnSem := List W → FR
/-- the arguments' own objects -/
def OwnA (vs : List V) (ws : List W) (b : Addr) : Prop := ∃ (i : Nat) (x : D), ws[i]? = some (.own x) ∧ vs[i]? = some (.ref b)
structure EntA (K : PySem.W.Frag) (mg : Str → Option Value) (vs : List V) (ws : List W) (H G : Hp) : Prop where
  len : vs.length = ws.length
  sub : SubH G H
  val : ∀ (i : Nat) (w : W), ws[i]? = some w → ∃ v, vs[i]? = some v ∧ RW K mg H G v w
  dis : ∀ (i j : Nat) (x y : D) (v : V), ws[i]? = some (.own x) → ws[j]? = some (.own y) → vs[i]? = some v → vs[j]? = some v → i = j
structure ExA (K : PySem.W.Frag) (mg : Str → Option Value) (vs : List V) (ws outs : List W) (H G H' G' : Hp) : Prop where
  grow : SubH G G'
  sub : SubH G' H'
  keep : ∀ b o, H b = some o → G b = none → ¬ OwnA vs ws b → H' b = some o ∧ G' b = none
  out : ∀ (i : Nat) (x : D), ws[i]? = some (.own x) → ∃ (y : D) (a : Addr), outs[i]? = some (.own y) ∧ vs[i]? = some (.ref a) ∧ G' a = none ∧ RO K mg H' G' a y
  shape : ∀ (i : Nat) (y : D), outs[i]? = some (.own y) → ∃ x, ws[i]? = some (.own x)
def spF (K : PySem.W.Frag) (mg : Str → Option Value) (F : FnSem) : Sp := fun vs H Q E => ∃ ws G, EntA K mg vs ws H G ∧
  match F ws with
  | .ok w outs => ∀ v H' G', ExA K mg vs ws outs H G H' G' → RW K mg H' G' v w → (∀ x a, w = .own x → v = .ref a → H a = none) → Q v H'
  | .exc c fs outs => ∀ cls od H' G', ExA K mg vs ws outs H G H' G' → RX K mg H' G' cls od c fs → E cls od H'
  | .bad => False
/-- what a def promises: where no repr runs -/
structure FnG (P : Program) (w : World) (K : PySem.W.Frag) (mg : Str → Option Value) (base : Heap) (k : Nat) (f : Addr) (fd : FuncData) (ps : List Str) (F : FnSem) : Prop where
  arity : ∀ ws, F ws ≠ .bad → ws.length = ps.length
  run : ∀ (A : Around) (outer : List Env) (s : Shared) (H : Hp) (args : Args) (us : List Value) (vs : List V) (Q : VK) (E : XK),
    Room k A → A.guards = some [] → Env0 P w K mg base A outer s H → BindsTo s fd args (ps.zip us) → Vals vs us → spF K mg F vs H Q E →
    codeAny (model P w) A (.call (.ref f) args) (CR (L2.CX P w) outer P w H s Q E) s
theorem FnG.mono {P : Program} {w : World} {K : PySem.W.Frag} {mg : Str → Option Value} {base : Heap} {j k : Nat} {f : Addr} {fd : FuncData} {ps : List Str} {F : FnSem} (h : FnG P w K mg base j f fd ps F) (hj : j ≤ k) : FnG P w K mg base k f fd ps F :=
  ⟨h.arity, fun A outer s H args us vs Q E r => h.run A outer s H args us vs Q E (r.mono hj)⟩
def outsOf (ρ : Rho) : Nat → List W → Option (List W)
  | _, [] => some []
  | i, .d _ :: ws => match outsOf ρ (i + 1) ws with
    | some os => some (.d .non :: os)
    | none => none
  | i, .own _ :: ws => match ρ[i]?, outsOf ρ (i + 1) ws with
    | some (some (.own y)), some os => some (.own y :: os)
    | _, _ => none
def startR (n : Nat) (ws : List W) : Rho := ws.map some ++ List.replicate (n - ws.length) none
def sigOk : List Bool → List W → Bool
  | [], [] => true
  | _ :: bs, .d _ :: ws => sigOk bs ws
  | b :: bs, .own _ :: ws => b && sigOk bs ws
  | _, _ => false
def ioOf : Nat → List Bool → List Nat
  | _, [] => []
  | i, true :: bs => i :: ioOf (i + 1) bs
  | i, false :: bs => ioOf (i + 1) bs
def finF (ws : List W) (w : W) (ρ : Rho) : FR := match outsOf ρ 0 ws with
  | some os => .ok w os
  | none => .bad
def fnM (n : Nat) (sig : List Bool) (body : M Fl) : FnSem := fun ws => if sigOk sig ws = true then
    match body (startR n ws) with
    | .ok .nx ρ => finF ws (.d .non) ρ
    | .ok (.ret w) ρ => finF ws w ρ
    | .exc c fs ρ => match outsOf ρ 0 ws with
      | some os => .exc c fs os
      | none => .bad
    | _ => .bad
  else .bad
theorem sigOk_len : ∀ {bs : List Bool} {ws : List W}, sigOk bs ws = true → ws.length = bs.length
  | [], [], _ => rfl
  | _ :: bs, .d _ :: ws, h => by rw [List.length_cons, List.length_cons, sigOk_len (bs := bs) (ws := ws) h]
  | b :: bs, .own _ :: ws, h => by
    have h' : (b && sigOk bs ws) = true := h
    rw [Bool.and_eq_true] at h'
    rw [List.length_cons, List.length_cons, sigOk_len h'.2]
  | [], _ :: _, h => by cases h
  | _ :: _, [], h => by cases h
theorem sigOk_io : ∀ {bs : List Bool} {ws : List W} {i : Nat} {x : D} (k : Nat), sigOk bs ws = true → ws[i]? = some (.own x) → k + i ∈ ioOf k bs
  | [], [], _, _, _, _, e => by simp at e
  | b :: bs, .d _ :: ws, 0, _, _, _, e => by simp at e
  | b :: bs, .d _ :: ws, i + 1, x, k, h, e => by
    have r := sigOk_io (i := i) (k + 1) (show sigOk bs ws = true from h) (by simpa using e)
    have e2 : k + (i + 1) = k + 1 + i := by omega
    rw [e2]
    cases b with
    | true => exact List.mem_cons_of_mem _ r
    | false => exact r
  | b :: bs, .own _ :: ws, 0, x, k, h, e => by
    have h' : (b && sigOk bs ws) = true := h
    rw [Bool.and_eq_true] at h'
    rw [h'.1]
    exact List.mem_cons_self
  | b :: bs, .own _ :: ws, i + 1, x, k, h, e => by
    have h' : (b && sigOk bs ws) = true := h
    rw [Bool.and_eq_true] at h'
    have r := sigOk_io (i := i) (k + 1) h'.2 (by simpa using e)
    have e2 : k + (i + 1) = k + 1 + i := by omega
    rw [e2]
    cases b with
    | true => exact List.mem_cons_of_mem _ r
    | false => exact r
  | [], _ :: _, _, _, _, h, _ => by cases h
  | _ :: _, [], _, _, _, h, _ => by cases h
theorem outsOf_own {ρ : Rho} : ∀ {ws os : List W} {k i : Nat} {x : D}, outsOf ρ k ws = some os → ws[i]? = some (.own x) → ∃ y, os[i]? = some (.own y) ∧ ρ[k + i]? = some (some (.own y))
  | [], _, _, _, _, _, e => by simp at e
  | .d _ :: ws, os, k, i, x, h, e => by
    unfold outsOf at h
    split at h
    · rename_i os' h'
      have h2 := Option.some.inj h
      subst h2
      cases i with
      | zero => simp at e
      | succ i =>
        obtain ⟨y, h3, h4⟩ := outsOf_own (i := i) h' (by simpa using e)
        exact ⟨y, by simpa using h3, by rw [← h4]; congr 1; omega⟩
    · cases h
  | .own _ :: ws, os, k, i, x, h, e => by
    unfold outsOf at h
    split at h
    · rename_i y os' h1 h'
      have h2 := Option.some.inj h
      subst h2
      cases i with
      | zero => exact ⟨y, rfl, h1⟩
      | succ i =>
        obtain ⟨y, h3, h4⟩ := outsOf_own (i := i) h' (by simpa using e)
        exact ⟨y, by simpa using h3, by rw [← h4]; congr 1; omega⟩
    · cases h
theorem outsOf_shape {ρ : Rho} : ∀ {ws os : List W} {k i : Nat} {y : D}, outsOf ρ k ws = some os → os[i]? = some (.own y) → ∃ x, ws[i]? = some (.own x)
  | [], os, _, _, _, h, e => by
    have h2 : ([] : List W) = os := Option.some.inj h
    subst h2
    simp at e
  | .d _ :: ws, os, k, i, y, h, e => by
    unfold outsOf at h
    split at h
    · rename_i os' h'
      have h2 := Option.some.inj h
      subst h2
      cases i with
      | zero => simp at e
      | succ i => obtain ⟨x, h3⟩ := outsOf_shape (i := i) h' (by simpa using e); exact ⟨x, by simpa using h3⟩
    · cases h
  | .own z :: ws, os, k, i, y, h, e => by
    unfold outsOf at h
    split at h
    · rename_i y' os' h1 h'
      have h2 := Option.some.inj h
      subst h2
      cases i with
      | zero => exact ⟨z, rfl⟩
      | succ i => obtain ⟨x, h3⟩ := outsOf_shape (i := i) h' (by simpa using e); exact ⟨x, by simpa using h3⟩
    · cases h
section
variable {K : PySem.W.Frag} {mg : Str → Option Value} {σ' : St} {ρ' : Rho} {H G H' G' : Hp} {vs : List V} {ws outs : List W} {N : List Str} {sig : List Bool}
theorem startR_get {n i : Nat} {w : W} (h : (startR n ws)[i]? = some (some w)) : ws[i]? = some w := by
  unfold startR at h
  by_cases hi : i < ws.length
  · rw [List.getElem?_append_left (by simpa using hi), List.getElem?_map] at h
    cases e : ws[i]? with
    | none => rw [e] at h; cases h
    | some u => rw [e] at h; cases h; rfl
  · rw [List.getElem?_append_right (by simpa using hi), List.getElem?_replicate] at h
    split at h <;> cases h
theorem start_get {i : Nat} {v : V} (h : vs[i]? = some v) : (L2.start N vs)[i]? = some (some v) := by
  have hi : i < vs.length := (List.getElem?_eq_some_iff.mp h).1
  unfold L2.start
  rw [List.getElem?_append_left (by simpa using hi), List.getElem?_map, h]
  rfl
theorem start_got {i : Nat} {v : V} (h : (L2.start N vs)[i]? = some (some v)) : vs[i]? = some v := by
  unfold L2.start at h
  by_cases hi : i < vs.length
  · rw [List.getElem?_append_left (by simpa using hi), List.getElem?_map] at h
    cases e : vs[i]? with
    | none => rw [e] at h; cases h
    | some u => rw [e] at h; cases h; rfl
  · rw [List.getElem?_append_right (by simpa using hi), List.getElem?_replicate] at h
    split at h <;> cases h
theorem EntA.rel (e : EntA K mg vs ws H G) : Rel K mg (L2.start N vs) (startR N.length ws) H G := by
  refine ⟨?_, e.sub, fun i w hw => ?_, fun i j x y v h1 h2 h3 h4 => e.dis i j x y v (startR_get h1) (startR_get h2) (start_got h3) (start_got h4)⟩
  · unfold startR L2.start
    simp [e.len]
  · obtain ⟨v, h1, h2⟩ := e.val i w (startR_get hw)
    exact ⟨v, start_get h1, h2⟩
theorem OwnS.args {b : Addr} (h : OwnS (L2.start N vs) (startR N.length ws) b) : OwnA vs ws b := by
  obtain ⟨i, x, h1, h2⟩ := h
  exact ⟨i, x, startR_get h1, start_got h2⟩
/-- behind the body -/
theorem exitA (e : EntA K mg vs ws H G) (hs : sigOk sig ws = true) (R : Rel K mg σ' ρ' H' G') (F : Fr (ioOf 0 sig) (L2.start N vs) (startR N.length ws) H G σ' ρ' H' G') (ho : outsOf ρ' 0 ws = some outs) :
    ExA K mg vs ws outs H G H' G' ∧ ∀ b, OwnA vs ws b → OwnS σ' ρ' b := by
  have key : ∀ (i : Nat) (x : D), ws[i]? = some (.own x) → ∃ (y : D) (a : Addr), outs[i]? = some (.own y) ∧ ρ'[i]? = some (some (.own y)) ∧ σ'[i]? = some (some (.ref a)) ∧ vs[i]? = some (.ref a) ∧ G' a = none ∧ RO K mg H' G' a y := fun i x hx => by
    obtain ⟨y, h1, h2⟩ := outsOf_own ho hx
    rw [Nat.zero_add] at h2
    obtain ⟨v, h3, a, ea, ga, ro⟩ := R.slot i _ h2
    have hio : i ∈ ioOf 0 sig := by
      have := sigOk_io 0 hs hx
      rwa [Nat.zero_add] at this
    have h4 := F.fix i hio
    rw [h3] at h4
    subst ea
    exact ⟨y, a, h1, h2, h3, start_got h4.symm, ga, ro⟩
  refine ⟨⟨F.grow, R.sub, fun b o hb hg hn => ?_, fun i x hx => ?_, fun i y hy => outsOf_shape ho hy⟩, fun b ⟨i, x, h1, h2⟩ => ?_⟩
  · obtain ⟨k1, k2, _⟩ := F.keep b o hb hg fun z => hn (OwnS.args z)
    exact ⟨k1, k2⟩
  · obtain ⟨y, a, h1, _, _, h4, h5, h6⟩ := key i x hx
    exact ⟨y, a, h1, h4, h5, h6⟩
  · obtain ⟨y, a, _, h3, h4, h5, _, _⟩ := key i x h1
    rw [h2] at h5
    cases h5
    exact ⟨i, y, h3, h4⟩
end
/-- THE RULE for a def: its body's reading -/
theorem fnG_of {P : Program} {w : World} {K : PySem.W.Frag} {mg : Str → Option Value} {base : Heap} {k : Nat} {f : Addr} {name qual : Str} {params : Arguments} {body : List Stmt} {scope : Scope} {dV kV doc pm cdv ct oc : Value} {an od : Option Addr}
    {osl : Array (Option Value)} {N ps : List Str} {sig : List Bool} {m : M Fl}
    (lk : K.lookup f = some ⟨oc, od, .func (PySem.W.fnOf name qual params body scope dV kV doc pm an cdv ct), osl⟩) (hcd : PySem.W.codeIn K cdv qual = true) (S : FnScope N ps scope) (hsig : sig.length = ps.length)
    (hbody : ∀ (A : Around) (outer : List Env) (s : Shared) (H : Hp) (E : XK), Room k (A.deeper (envOfC qual scope s.heap.objs.size f cdv)) → A.guards = some [] →
      PMSs (cxOf (L2.CX P w) P w K mg base N qual scope f cdv A outer s H E) (fun cls d _ H' => E cls d H') (ioOf 0 sig) body m) :
    FnG P w K mg base (k + 1) f (PySem.W.fnOf name qual params body scope dV kV doc pm an cdv ct) ps (fnM N.length sig m) := by
  have ar : ∀ ws, fnM N.length sig m ws ≠ .bad → sigOk sig ws = true := fun ws h => by
    cases e : sigOk sig ws with
    | true => rfl
    | false =>
      refine absurd ?_ h
      unfold fnM
      rw [e]
      rfl
  refine ⟨fun ws h => (sigOk_len (ar ws h)).trans hsig, fun A outer s H args us vs Q E hr gd e0 hb r hsp => ?_⟩
  obtain ⟨ws, G, ent, hF⟩ := hsp
  have hs : sigOk sig ws = true := ar ws fun z => by rw [z] at hF; exact hF
  have hl : vs.length = ps.length := ent.len.trans ((sigOk_len hs).trans hsig)
  have inK : K.In s.heap := e0.mod.kin.keeps fun b o e => (e0.bs b o e).1
  have noLim : s.heap.NoLimit := e0.mod.nolimit.keeps fun b o e => (e0.bs b o e).1
  have kinds : ∀ y ∈ ps.zip us, scope.names.lookup y.1 = some .local ∨ (scope.names.lookup y.1 = some .cell ∧ ((cellsFrom (s.heap.objs.size + 1) scope.names []).lookup y.1).isSome = true) := fun y hy =>
    (S.par y.1 (List.of_mem_zip (a := y.1) (b := y.2) hy).1).imp id fun q => ⟨q, PySem.W.cellsFrom_some _ _ _ (.inl q)⟩
  refine codeAny_call_function hr.depth (inK _ _ lk) rfl S.co S.gen rfl (PySem.W.codeRec_of inK hcd) (hb _ _ _ _ (wpAny_newFunctionEnv_cells S.kind kinds fun env he s1 x => ?_))
  subst he
  have I := inv_start (CX := L2.CX P w) (E := E) S hr.hd e0 hl r x
  have body := (hbody A outer s H E (hr.deeper _) gd).run [] s1 (L2.start N vs) H { nx := fun _ H' => Q .non H', rt := Q } I ⟨startR N.length ws, G, ent.rel, ?_⟩
  · refine ⟨noLim.keeps x.toInCall.keep, codeAny_func (wpAny_mono body (fun fl s' q => ?_) fun e s' q => q)⟩
    cases fl with
    | ret u => exact let ⟨v, σ', H', J, rv, q⟩ := q; ⟨v, H', J.os, J.bare, J.base, J.hok, rv, q⟩
    | next => exact let ⟨σ', H', J, q⟩ := q; ⟨V.non, H', J.os, J.bare, J.base, J.hok, rfl, q⟩
    | brk => exact q.elim fun _ q => q.elim fun _ q => q.2.elim
    | cont => exact q.elim fun _ q => q.elim fun _ q => q.2.elim
  · unfold fnM at hF
    rw [if_pos hs] at hF
    cases em : m (startR N.length ws) with
    | bad => rw [em] at hF; exact hF
    | exc c fs ρ' =>
      rw [em] at hF
      intro cls od σ' H' G' R F rx
      dsimp only at hF
      split at hF
      · rename_i c' fs' os' e1
        cases e2 : outsOf ρ' 0 ws with
        | none => rw [e2] at e1; cases e1
        | some os => rw [e2] at e1; cases e1
      · rename_i c' fs' os' e1
        cases e2 : outsOf ρ' 0 ws with
        | none => rw [e2] at e1; cases e1
        | some os =>
          rw [e2] at e1
          cases e1
          exact hF cls od H' G' (exitA ent hs R F e2).1 rx
      · exact hF.elim
    | ok fl ρ' =>
      rw [em] at hF
      have fin : ∀ w, (match finF ws w ρ' with
          | .ok w outs => ∀ v H' G', ExA K mg vs ws outs H G H' G' → RW K mg H' G' v w → (∀ x a, w = .own x → v = .ref a → H a = none) → Q v H'
          | .exc c fs outs => ∀ cls od H' G', ExA K mg vs ws outs H G H' G' → RX K mg H' G' cls od c fs → E cls od H'
          | .bad => False) → ∀ v σ' H' G', Rel K mg σ' ρ' H' G' → Fr (ioOf 0 sig) (L2.start N vs) (startR N.length ws) H G σ' ρ' H' G' → RR K mg (L2.start N vs) (startR N.length ws) H σ' ρ' H' G' v w → Q v H' := fun w hw v σ' H' G' R F rr => by
        unfold finF at hw
        cases e2 : outsOf ρ' 0 ws with
        | none => rw [e2] at hw; exact hw.elim
        | some os =>
          rw [e2] at hw
          obtain ⟨ex, own⟩ := exitA ent hs R F e2
          refine hw v H' G' ex rr.1 fun x a e3 e4 => ?_
          obtain ⟨r1, r2⟩ := rr.2 x a e3 e4
          cases e5 : H a with
          | none => rfl
          | some o => exact (r1 (own a (r2 o e5).args)).elim
      cases fl with
      | nx => exact fun σ' H' G' R F => fin _ hF .non σ' H' G' R F ⟨rfl, fun _ _ z => nomatch z⟩
      | ret w => exact fun v σ' H' G' R F rr => fin w hF v σ' H' G' R F rr
      | brk => exact hF.elim
      | cont => exact hF.elim
end FL
set_option Elab.async false
set_option linter.all false
set_option maxRecDepth 100000
set_option maxHeartbeats 2000000
namespace FL
open PySem PySem.Spec L2
open PyProof.Rows hiding St
/-- an operand as an argument: a slot's own object goes by reference -/
def A.arg (ρ : Rho) : A → Option W
  | .val x => some (.d x)
  | .ref i => match ρ[i]? with
    | some (some w) => some w
    | _ => none
def argsOf (ρ : Rho) : List A → Option (List W)
  | [] => some []
  | a :: as => match a.arg ρ, argsOf ρ as with
    | some w, some ws => some (w :: ws)
    | _, _ => none
/-- the slots that go by reference -/
def refsOf : List A → List W → List Nat
  | .ref i :: as, .own _ :: ws => i :: refsOf as ws
  | _ :: as, _ :: ws => refsOf as ws
  | _, _ => []
def setOuts : List A → List W → Rho → Rho
  | .ref i :: as, .own y :: os, ρ => setOuts as os (ρ.set i (some (.own y)))
  | _ :: as, _ :: os, ρ => setOuts as os ρ
  | _, _, ρ => ρ
def onceB : List Nat → Bool
  | [] => true
  | i :: is => !is.contains i && onceB is
def callM (F : FnSem) (ms : M (List A)) : M W := fun ρ => (ms ρ).bind fun as ρ => match argsOf ρ as with
  | some ws => if onceB (refsOf as ws) = true then
      match F ws with
      | .ok w outs => .ok w (setOuts as outs ρ)
      | .exc c fs outs => .exc c fs (setOuts as outs ρ)
      | .bad => .bad
    else .bad
  | none => .bad
section
variable {K : PySem.W.Frag} {mg : Str → Option Value} {Wx : WX} {σ : St} {ρ : Rho} {H G H' G' : Hp} {Q : VK} {vs : List V} {ws outs : List W} {as : List A}
theorem argsOf_len : ∀ {as : List A} {ws : List W}, argsOf ρ as = some ws → as.length = ws.length
  | [], ws, h => by
    have h2 : ([] : List W) = ws := Option.some.inj h
    subst h2
    rfl
  | a :: as, ws, h => by
    unfold argsOf at h
    split at h
    · rename_i w ws' h1 h2
      have h3 := Option.some.inj h
      rw [← h3, List.length_cons, List.length_cons, argsOf_len h2]
    · cases h
theorem argsOf_get : ∀ {as : List A} {ws : List W} {i : Nat} {w : W}, argsOf ρ as = some ws → ws[i]? = some w → ∃ a, as[i]? = some a ∧ a.arg ρ = some w
  | [], ws, i, w, h, e => by
    have h2 : ([] : List W) = ws := Option.some.inj h
    rw [← h2] at e
    simp at e
  | a :: as, ws, i, w, h, e => by
    unfold argsOf at h
    split at h
    · rename_i w' ws' h1 h2
      have h3 := Option.some.inj h
      rw [← h3] at e
      cases i with
      | zero =>
        have e' : w' = w := by simpa using e
        rw [← e']
        exact ⟨a, rfl, h1⟩
      | succ i =>
        obtain ⟨b, h4, h5⟩ := argsOf_get (i := i) h2 (by simpa using e)
        exact ⟨b, by simpa using h4, h5⟩
    · cases h
theorem RAs.len : ∀ {vs : List V} {as : List A}, RAs K mg σ G vs as → vs.length = as.length
  | [], [], _ => rfl
  | _ :: _, _ :: _, ⟨_, t⟩ => by rw [List.length_cons, List.length_cons, RAs.len t]
  | [], _ :: _, h => h.elim
  | _ :: _, [], h => h.elim
theorem RAs.get : ∀ {vs : List V} {as : List A} {i : Nat} {a : A}, RAs K mg σ G vs as → as[i]? = some a → ∃ v, vs[i]? = some v ∧ RAt K mg σ G v a
  | [], [], _, _, _, e => by simp at e
  | v :: vs, a :: as, 0, b, ⟨h, t⟩, e => by
    have e' : a = b := by simpa using e
    rw [← e']
    exact ⟨v, rfl, h⟩
  | v :: vs, a :: as, i + 1, b, ⟨h, t⟩, e => by
    obtain ⟨u, h1, h2⟩ := RAs.get (i := i) t (by simpa using e)
    exact ⟨u, by simpa using h1, h2⟩
  | [], _ :: _, _, _, h, _ => h.elim
  | _ :: _, [], _, _, h, _ => h.elim
theorem own_ref {a : A} {x : D} (h : a.arg ρ = some (.own x)) : ∃ i, a = .ref i ∧ ρ[i]? = some (some (.own x)) := by
  cases a with
  | val y => cases (show some (W.d y) = some (.own x) from h)
  | ref i =>
    refine ⟨i, rfl, ?_⟩
    have h' : (match ρ[i]? with
      | some (some w) => some w
      | _ => none) = some (.own x) := h
    split at h'
    · rename_i w e
      cases h'
      exact e
    · cases h'
theorem refsOf_mem : ∀ {as : List A} {ws : List W} {i k : Nat} {x : D}, as[i]? = some (.ref k) → ws[i]? = some (.own x) → k ∈ refsOf as ws
  | [], _, _, _, _, h, _ => by simp at h
  | _ :: _, [], _, _, _, _, h => by simp at h
  | a :: as, w :: ws, 0, k, x, h1, h2 => by
    have e1 : a = .ref k := by simpa using h1
    have e2 : w = .own x := by simpa using h2
    subst e1 e2
    exact List.mem_cons_self
  | a :: as, w :: ws, i + 1, k, x, h1, h2 => by
    have r := refsOf_mem (i := i) (as := as) (ws := ws) (k := k) (x := x) (by simpa using h1) (by simpa using h2)
    cases a with
    | val _ => exact r
    | ref j =>
      cases w with
      | d _ => exact r
      | own _ => exact List.mem_cons_of_mem _ r
theorem refs_once : ∀ {as : List A} {ws : List W} {i j k : Nat} {x y : D}, onceB (refsOf as ws) = true → as[i]? = some (.ref k) → as[j]? = some (.ref k) → ws[i]? = some (.own x) → ws[j]? = some (.own y) → i = j
  | [], _, _, _, _, _, _, _, h, _, _, _ => by simp at h
  | _ :: _, [], _, _, _, _, _, _, _, _, h, _ => by simp at h
  | a :: as, w :: ws, i, j, k, x, y, ho, h1, h2, h3, h4 => by
    have tail : onceB (refsOf as ws) = true := by
      cases a with
      | val _ => exact ho
      | ref q =>
        cases w with
        | d _ => exact ho
        | own _ =>
          have ho' : (!(refsOf as ws).contains q && onceB (refsOf as ws)) = true := ho
          rw [Bool.and_eq_true] at ho'
          exact ho'.2
    have clash : ∀ {m : Nat} {z : D}, a = .ref k → w = .own x ∨ w = .own y → as[m]? = some (.ref k) → ws[m]? = some (.own z) → False := fun {m z} e1 e2 e3 e4 => by
      subst e1
      have hm := refsOf_mem e3 e4
      obtain ⟨z2, ew⟩ : ∃ z2, w = .own z2 := e2.elim (fun e => ⟨_, e⟩) fun e => ⟨_, e⟩
      subst ew
      have ho' : (!(refsOf as ws).contains k && onceB (refsOf as ws)) = true := ho
      rw [Bool.and_eq_true] at ho'
      have c1 : (refsOf as ws).contains k = false := by simpa using ho'.1
      have c2 : (refsOf as ws).contains k = true := by simpa using hm
      rw [c1] at c2
      cases c2
    cases i with
    | zero =>
      cases j with
      | zero => rfl
      | succ j => exact (clash (by simpa using h1) (.inl (by simpa using h3)) (by simpa using h2) (by simpa using h4)).elim
    | succ i =>
      cases j with
      | zero => exact (clash (by simpa using h2) (.inr (by simpa using h4)) (by simpa using h1) (by simpa using h3)).elim
      | succ j => rw [refs_once (i := i) (j := j) tail (by simpa using h1) (by simpa using h2) (by simpa using h3) (by simpa using h4)]
/-- what goes in -/
theorem entA_of (R : Rel K mg σ ρ H G) (ra : RAs K mg σ G vs as) (hw : argsOf ρ as = some ws) (ho : onceB (refsOf as ws) = true) : EntA K mg vs ws H G := by
  have one : ∀ (i : Nat) (x : D), ws[i]? = some (.own x) → ∃ k v, as[i]? = some (.ref k) ∧ ρ[k]? = some (some (.own x)) ∧ vs[i]? = some v ∧ σ[k]? = some (some v) := fun i x h => by
    obtain ⟨a, h1, h2⟩ := argsOf_get hw h
    obtain ⟨k, ea, hk⟩ := own_ref h2
    subst ea
    obtain ⟨v, h3, h4⟩ := ra.get h1
    exact ⟨k, v, h1, hk, h3, h4⟩
  refine ⟨ra.len.trans (argsOf_len hw), R.sub, fun i w h => ?_, fun i j x y v h1 h2 h3 h4 => ?_⟩
  · obtain ⟨a, h1, h2⟩ := argsOf_get hw h
    obtain ⟨v, h3, h4⟩ := ra.get h1
    refine ⟨v, h3, ?_⟩
    cases a with
    | val x =>
      cases (show some (W.d x) = some w from h2)
      exact h4
    | ref k =>
      have h2' : (match ρ[k]? with
        | some (some w) => some w
        | _ => none) = some w := h2
      split at h2'
      · rename_i u e
        cases h2'
        obtain ⟨v', s, q⟩ := R.slot k w e
        have h4' : σ[k]? = some (some v) := h4
        rw [h4'] at s
        cases s
        exact q
      · cases h2'
  · obtain ⟨k1, v1, a1, b1, c1, d1⟩ := one i x h1
    obtain ⟨k2, v2, a2, b2, c2, d2⟩ := one j y h2
    rw [h3] at c1
    cases c1
    rw [h4] at c2
    cases c2
    have ek := R.dis k1 k2 x y v b1 b2 d1 d2
    subst ek
    exact refs_once ho a1 a2 h1 h2
theorem setOuts_len : ∀ (as : List A) (os : List W) (ρ : Rho), (setOuts as os ρ).length = ρ.length
  | [], _, _ => rfl
  | .val _ :: _, [], _ => rfl
  | .ref _ :: _, [], _ => rfl
  | .val _ :: as, .d _ :: os, ρ => setOuts_len as os ρ
  | .val _ :: as, .own _ :: os, ρ => setOuts_len as os ρ
  | .ref _ :: as, .d _ :: os, ρ => setOuts_len as os ρ
  | .ref i :: as, .own y :: os, ρ => by
    have := setOuts_len as os (ρ.set i (some (.own y)))
    rw [List.length_set] at this
    exact this
/-- a slot behind the call: written, or as it was -/
theorem setOuts_get {j : Nat} : ∀ {as : List A} {os : List W} {ρ : Rho}, j < ρ.length →
    (∃ (i : Nat) (y : D), as[i]? = some (A.ref j) ∧ os[i]? = some (W.own y) ∧ (setOuts as os ρ)[j]? = some (some (W.own y))) ∨ ((∀ (i : Nat) (y : D), as[i]? = some (A.ref j) → os[i]? ≠ some (W.own y)) ∧ (setOuts as os ρ)[j]? = ρ[j]?)
  | [], _, _, _ => .inr ⟨fun i y h => by simp at h, rfl⟩
  | .val _ :: _, [], _, _ => .inr ⟨fun i y _ h => by simp at h, rfl⟩
  | .ref _ :: _, [], _, _ => .inr ⟨fun i y _ h => by simp at h, rfl⟩
  | .val z :: as, o :: os, ρ, hj => by
    have e : setOuts (.val z :: as) (o :: os) ρ = setOuts as os ρ := by cases o <;> rfl
    rw [e]
    rcases setOuts_get (as := as) (os := os) hj with ⟨i, y, h1, h2, h3⟩ | ⟨h1, h2⟩
    · exact .inl ⟨i + 1, y, by simpa using h1, by simpa using h2, h3⟩
    · refine .inr ⟨fun i y a b => ?_, h2⟩
      cases i with
      | zero => simp at a
      | succ i => exact h1 i y (by simpa using a) (by simpa using b)
  | .ref k :: as, .d z :: os, ρ, hj => by
    have e : setOuts (.ref k :: as) (.d z :: os) ρ = setOuts as os ρ := rfl
    rw [e]
    rcases setOuts_get (as := as) (os := os) hj with ⟨i, y, h1, h2, h3⟩ | ⟨h1, h2⟩
    · exact .inl ⟨i + 1, y, by simpa using h1, by simpa using h2, h3⟩
    · refine .inr ⟨fun i y a b => ?_, h2⟩
      cases i with
      | zero => simp at b
      | succ i => exact h1 i y (by simpa using a) (by simpa using b)
  | .ref k :: as, .own z :: os, ρ, hj => by
    have e : setOuts (.ref k :: as) (.own z :: os) ρ = setOuts as os (ρ.set k (some (.own z))) := rfl
    rw [e]
    rcases setOuts_get (as := as) (os := os) (ρ := ρ.set k (some (.own z))) (by rw [List.length_set]; exact hj) with ⟨i, y, h1, h2, h3⟩ | ⟨h1, h2⟩
    · exact .inl ⟨i + 1, y, by simpa using h1, by simpa using h2, h3⟩
    · by_cases hk : k = j
      · subst hk
        exact .inl ⟨0, z, rfl, rfl, by rw [h2, List.getElem?_set_self hj]⟩
      · refine .inr ⟨fun i y a b => ?_, by rw [h2, List.getElem?_set_ne hk]⟩
        cases i with
        | zero =>
          have : k = j := by simpa using a
          exact hk this
        | succ i => exact h1 i y (by simpa using a) (by simpa using b)
/-- behind the call -/
theorem call_back (R : Rel K mg σ ρ H G) (ra : RAs K mg σ G vs as) (hw : argsOf ρ as = some ws) (ex : ExA K mg vs ws outs H G H' G') :
    Rel K mg σ (setOuts as outs ρ) H' G' ∧ Fr [] σ ρ H G σ (setOuts as outs ρ) H' G' ∧ ∀ b, OwnS σ (setOuts as outs ρ) b → OwnS σ ρ b := by
  have argO : ∀ (i : Nat) (x : D), ws[i]? = some (.own x) → ∃ k v, as[i]? = some (.ref k) ∧ ρ[k]? = some (some (.own x)) ∧ vs[i]? = some v ∧ σ[k]? = some (some v) := fun i x h => by
    obtain ⟨a, h1, h2⟩ := argsOf_get hw h
    obtain ⟨k, ea, hk⟩ := own_ref h2
    subst ea
    obtain ⟨v, h3, h4⟩ := ra.get h1
    exact ⟨k, v, h1, hk, h3, h4⟩
  have lt : ∀ {j : Nat} {w : Option W}, (setOuts as outs ρ)[j]? = some w → j < ρ.length := fun {j w} h => by
    have := (List.getElem?_eq_some_iff.mp h).1
    rwa [setOuts_len] at this
  -- an own slot behind the call was one ahead of it
  have was : ∀ {j : Nat} {y : D}, (setOuts as outs ρ)[j]? = some (some (.own y)) → ∃ x, ρ[j]? = some (some (.own x)) := fun {j y} h => by
    rcases setOuts_get (as := as) (os := outs) (ρ := ρ) (lt h) with ⟨i, z, h1, h2, _⟩ | ⟨_, h2⟩
    · obtain ⟨x, hx⟩ := ex.shape i z h2
      obtain ⟨k, v, a1, a2, _, _⟩ := argO i x hx
      rw [h1] at a1
      cases a1
      exact ⟨x, a2⟩
    · exact ⟨y, h2.symm.trans h⟩
  have argS : ∀ b, OwnA vs ws b → OwnS σ ρ b := fun b ⟨i, x, h1, h2⟩ => by
    obtain ⟨k, v, _, a2, a3, a4⟩ := argO i x h1
    rw [h2] at a3
    cases a3
    exact ⟨k, x, a2, a4⟩
  have back : ∀ b, OwnS σ (setOuts as outs ρ) b → OwnS σ ρ b := fun b ⟨j, y, h1, h2⟩ => by
    obtain ⟨x, hx⟩ := was h1
    exact ⟨j, x, hx, h2⟩
  refine ⟨⟨(setOuts_len as outs ρ).trans R.len, ex.sub, fun j w h => ?_, fun i j x y v h1 h2 h3 h4 => ?_⟩, ⟨ex.grow, fun b o hb hg hn => ?_, fun _ h => absurd h (by simp), rfl⟩, back⟩
  · rcases setOuts_get (as := as) (os := outs) (ρ := ρ) (lt h) with ⟨i, z, h1, h2, h3⟩ | ⟨h1, h2⟩
    · rw [h] at h3
      cases h3
      obtain ⟨x, hx⟩ := ex.shape i z h2
      obtain ⟨k, v, a1, a2, a3, a4⟩ := argO i x hx
      rw [h1] at a1
      cases a1
      obtain ⟨y, a, b1, b2, b3, b4⟩ := ex.out i x hx
      rw [h2] at b1
      cases b1
      rw [a3] at b2
      cases b2
      exact ⟨_, a4, a, rfl, b3, b4⟩
    · rw [h] at h2
      obtain ⟨v, s, q⟩ := R.slot j w h2.symm
      refine ⟨v, s, q.mono ex.grow fun x a e1 e2 => ?_⟩
      subst e1 e2
      obtain ⟨a', ea, ga, ro⟩ := q
      cases ea
      obtain ⟨o, ho, _⟩ := ro.there
      obtain ⟨k1, k2⟩ := ex.keep a o ho ga fun ⟨i, x', c1, c2⟩ => by
        obtain ⟨k, v, a1, a2, a3, a4⟩ := argO i x' c1
        rw [c2] at a3
        cases a3
        have ek := R.dis k j x' x (.ref a) a2 h2.symm a4 s
        subst ek
        obtain ⟨y, _, b1, _, _, _⟩ := ex.out i x' c1
        exact h1 i y a1 b1
      exact ⟨k1.trans ho.symm, k2⟩
  · obtain ⟨x', hx⟩ := was h1
    obtain ⟨y', hy⟩ := was h2
    exact R.dis i j x' y' v hx hy h3 h4
  · obtain ⟨k1, k2⟩ := ex.keep b o hb hg fun z => hn (argS b z)
    exact ⟨k1, k2, fun z => hn (back b z)⟩
/-- the callee's promise at such arguments -/
theorem call_sp {F : FnSem} (R : Rel K mg σ ρ H G) (ra : RAs K mg σ G vs as) (h : GoE K mg Wx σ ρ H G (match argsOf ρ as with
    | some ws => if onceB (refsOf as ws) = true then
        match F ws with
        | .ok w outs => .ok w (setOuts as outs ρ)
        | .exc c fs outs => .exc c fs (setOuts as outs ρ)
        | .bad => .bad
      else .bad
    | none => .bad) Q) : spF K mg F vs H Q fun cls od H' => Wx cls od σ H' := by
  cases hw : argsOf ρ as with
  | none => rw [hw] at h; exact h.elim
  | some ws =>
    rw [hw] at h
    dsimp only at h
    split at h
    · rename_i ho
      refine ⟨ws, G, entA_of R ra hw ho, ?_⟩
      cases hF : F ws with
      | bad => rw [hF] at h; exact h.elim
      | ok w outs =>
        rw [hF] at h
        intro v H' G' ex rw' nw
        obtain ⟨R', F', back⟩ := call_back R ra hw ex
        refine h v H' G' R' F' ⟨rw', fun x a e1 e2 => ⟨fun z => ?_, fun o ho => by rw [nw x a e1 e2] at ho; cases ho⟩⟩
        obtain ⟨j, y, z1, z2⟩ := back a z
        obtain ⟨v', s', q⟩ := R.slot j _ z1
        rw [z2] at s'
        cases s'
        obtain ⟨a', ea, _, ro⟩ := q
        cases ea
        obtain ⟨o, ho, _⟩ := ro.there
        rw [nw x a e1 e2] at ho
        cases ho
      | exc c fs outs =>
        rw [hF] at h
        intro cls od H' G' ex rx
        obtain ⟨R', F', _⟩ := call_back R ra hw ex
        exact h cls od H' G' R' F' rx
    · exact h.elim
end
section
variable {X : Cx} {Wx : WX} {k : Nat} {f : Addr} {fd : FuncData} {ps : List Str} {F : FnSem} {x : Str} {p pos : Pos} {e : Expr} {es : List Expr} {ms : M (List A)}
theorem run_fnG {pins : List (Addr × Obj)} {σ : St} {H : Hp} {s : Shared} {Q : VK} {us : List Value} {vs : List V} (FG : FnG X.prog X.w X.K X.mg X.base k f fd ps F) (hr : Room k X.A) (hgd : X.A.guards = some []) (hb : Binds X.K fd ps []) (tk : Takes X Wx)
    (I : Inv X pins σ H s) (r : Vals vs us) (h : spF X.K X.mg F vs H Q fun cls od H' => Wx cls od σ H') : wpAny (model X.prog X.w) X.A (call (.ref f) us) (EP X pins σ Q) X.xe s := by
  have hl : us.length = ps.length := by
    obtain ⟨ws, G, ent, hF⟩ := h
    rw [← r.length, ent.len]
    exact FG.arity ws fun z => by rw [z] at hF; exact hF
  have bt := hb s us I.kIn (by rw [List.append_nil]; exact hl)
  rw [List.append_nil] at bt
  refine wpAny_call (codeAny_mono (FG.run X.A X.stack s H ⟨us, []⟩ us vs Q _ hr hgd I.env0 bt r h) fun res s' q => ?_)
  match res, q with
  | .error e, q => exact tk e s' (XE.of_call I (fun _ _ _ z => z) q)
  | .ok (.ret u), q => exact I.after q
  | .ok .next, q => exact False.elim q
  | .ok .brk, q => exact False.elim q
  | .ok .cont, q => exact False.elim q
theorem callM_sp {σ : St} {H : Hp} {Q : VK} (h : tM X.K X.mg Wx (callM F ms) σ H Q) : tAs X.K X.mg Wx ms σ H fun vs H1 => spF X.K X.mg F vs H1 Q fun cls od H' => Wx cls od σ H' := by
  obtain ⟨ρ, G, R, h⟩ := h
  exact tAs_mono (tAs_bind R h) fun vs H1 ⟨as, ρ1, G1, R1, ra, F1, g⟩ => call_sp R1 ra g
/-- f(e, ..), f a def of the text -/
theorem pm_call (FG : FnG X.prog X.w X.K X.mg X.base k f fd ps F) (hr : Room k X.A) (hgd : X.A.guards = some []) (hg : Gl X x) (hm : X.mg x = some (.ref f)) (hk : PySem.W.keepIn X.K (.ref f) = true) (hb : Binds X.K fd ps []) (tk : Takes X Wx)
    (ha : PMAs X Wx (e :: es) ms) (hdb : (x == ("__debug__" : Str)) = false) (he : starEach (e :: es) X.env = (false, eval e X.env) :: starEach es X.env) (hpl : (backTo pos (starEach es X.env)).any (·.1) = false) : PM X Wx (.Call (.Name x p) (e :: es) [] pos) (callM F ms) := by
  refine ⟨fun pins s σ H Q I h => wpAny_Call_Name_kw (ld_glob I hg hm ?_ hdb)⟩
  exact PySem.W.callWith_K (h₀ := X.base) I.ok.mod.kin hk (thn (ha.run pos pins s σ H _ I (callM_sp h)) fun us s1 ⟨vs, H1, I1, r, q⟩ => ⟨I1.kIn, run_fnG FG hr hgd hb tk I1 r q⟩) he hpl
/-- f() -/
theorem pm_call0 (FG : FnG X.prog X.w X.K X.mg X.base k f fd ps F) (hr : Room k X.A) (hgd : X.A.guards = some []) (hg : Gl X x) (hm : X.mg x = some (.ref f)) (hk : PySem.W.keepIn X.K (.ref f) = true) (hb : Binds X.K fd ps []) (tk : Takes X Wx)
    (hdb : (x == ("__debug__" : Str)) = false) : PM X Wx (.Call (.Name x p) [] [] pos) (callM F nilA) := by
  refine ⟨fun pins s σ H Q I h => wpAny_Call_Name_kw (ld_glob I hg hm ?_ hdb)⟩
  refine PySem.W.callWith_K0 I.kIn hk (run_fnG (us := []) (vs := []) FG hr hgd hb tk I .nil ?_)
  obtain ⟨ρ, G, R, h⟩ := h
  exact call_sp (as := []) R True.intro h
end
end FL
set_option Elab.async false
set_option linter.all false
set_option maxRecDepth 100000
set_option maxHeartbeats 2000000
namespace FL
open PySem PySem.Spec L2
open PyProof.Rows hiding St
def tyN : D → Option String
  | .non => some "NoneType"
  | .bl _ => some "bool"
  | .int _ => some "int"
  | .str _ => some "str"
  | .tup _ => some "tuple"
  | .lst _ => some "list"
  | .scr _ => some "list"
  | .dct _ => some "dict"
  | _ => none
def tyKnown (n : String) : Bool := ["int", "bool", "str", "tuple", "list", "dict"].contains n
def subTy (t n : String) : Bool := t == n || (t == "bool" && n == "int")
def clsN : D → Option String
  | .ty n => if tyKnown n = true then some n else none
  | _ => none
def clsNs : List D → Option (List String)
  | [] => some []
  | d :: ds => match clsN d, clsNs ds with
    | some n, some ns => some (n :: ns)
    | _, _ => none
theorem kit_ty (K : PySem.W.Frag) : ∀ t ∈ ["NoneType", "bool", "int", "str", "tuple", "list", "dict"], ∀ n ∈ ["int", "bool", "str", "tuple", "list", "dict"], PySem.W.kitOne K (.type t) (.type n) = some (subTy t n) := by
  intro t ht n hn
  simp only [List.mem_cons, List.not_mem_nil, or_false] at ht hn
  rcases ht with rfl | rfl | rfl | rfl | rfl | rfl | rfl <;> rcases hn with rfl | rfl | rfl | rfl | rfl | rfl <;> kernel_rfl
def isiW : List D → Option W
  | [x, .ty n] => match tyN x, clsN (.ty n) with
    | some t, some m => some (.d (.bl (subTy t m)))
    | _, _ => none
  | [x, .tup cs] => match tyN x, clsNs cs with
    | some t, some ms => some (.d (.bl (ms.any fun m => subTy t m)))
    | _, _ => none
  | _ => none
theorem tyN_mem {d : D} {t : String} (h : tyN d = some t) : t ∈ ["NoneType", "bool", "int", "str", "tuple", "list", "dict"] := by
  unfold tyN at h
  split at h <;> first
    | (cases h; simp)
    | cases h
theorem clsN_ok {d : D} {n : String} (h : clsN d = some n) : d = .ty n ∧ n ∈ ["int", "bool", "str", "tuple", "list", "dict"] := by
  unfold clsN at h
  split at h
  · split at h
    · rename_i k
      cases h
      exact ⟨rfl, by simpa [tyKnown] using k⟩
    · cases h
  · cases h
section
variable {K : PySem.W.Frag} {mg : Str → Option Value} {H G : Hp}
theorem tyX_of {d : D} {v : V} {t : String} (sub : SubH G H) (r : RH K mg H G d v) (h : tyN d = some t) : TyX K H v (.type t) := by
  unfold tyN at h
  split at h
  · cases h; cases (show v = .non from r); exact .base .non
  · cases h; cases (show v = .bl _ from r); exact .base (.bl _)
  · cases h; cases (show v = .int _ from r); exact .base (.int _)
  · cases h; cases (show v = .str _ from r); exact .base (.str _)
  · cases h
    obtain ⟨a, xs, ev, q, _⟩ := r
    subst ev
    rcases q with (q | ⟨o, q⟩) | ⟨o, its, n, k1, k2, _⟩
    · exact .base (.tup (sub _ _ q))
    · exact .fTuple (sub _ _ q)
    · exact .kTuple k1 k2
  · cases h
    obtain ⟨a, xs, ev, q, _⟩ := r
    subst ev
    exact .base (.lst q)
  · cases h
    obtain ⟨a, ev, q⟩ := r
    subst ev
    rcases q with (q | ⟨o, q⟩) | ⟨o, its, n, k1, k2, _⟩
    · exact .base (.lst (sub _ _ q))
    · exact .base (.frz (sub _ _ q))
    · exact .kList k1 k2
  · cases h
    obtain ⟨a, xs, ev, q, _⟩ := r
    subst ev
    exact .base (.dK q)
  · cases h
theorem kitAny_ty {t : String} (ht : t ∈ ["NoneType", "bool", "int", "str", "tuple", "list", "dict"]) : ∀ {cs : List D} {ms : List String} {vs : List V} {us : List Value}, clsNs cs = some ms → RVs K mg G cs vs → Vals vs us → PySem.W.kitAny K (.type t) us = some (ms.any fun m => subTy t m)
  | [], ms, vs, us, h, r, q => by
    have h2 : ([] : List String) = ms := Option.some.inj h
    subst h2
    rw [show vs = [] from r] at q
    cases q
    rfl
  | c :: cs, ms, vs, us, h, r, q => by
    unfold clsNs at h
    split at h
    · rename_i n ns h1 h2
      have h3 := Option.some.inj h
      subst h3
      obtain ⟨y, ys, ev, ry, rys⟩ := r
      subst ev
      obtain ⟨ec, hn⟩ := clsN_ok h1
      subst ec
      cases (show y = .ty n from ry)
      cases q with
      | cons q1 q2 =>
        cases q1
        have ih := kitAny_ty ht h2 rys q2
        unfold PySem.W.kitAny
        rw [kit_ty K t ht n hn, List.any_cons]
        cases e : subTy t n with
        | true => rfl
        | false => rw [Bool.false_or]; exact ih
    · cases h
end
section
variable {X : Cx}
theorem call_isiP : CallR X (.builtin "isinstance") (rPn X.K X.mg isiW) := by
  intro pins s σ H xs us Q I r h
  obtain ⟨G, ds, w, sub, rh, e, k⟩ := h
  unfold isiW at e
  split at e
  · rename_i x n
    split at e
    · rename_i t m h1 h2
      have e' := Option.some.inj e
      subst e'
      obtain ⟨en, hm⟩ := clsN_ok h2
      cases en
      obtain ⟨v, v', ev, r1, r2⟩ := rh.two
      subst ev
      cases (show v' = .ty n from r2)
      exact call_isi pins s σ H _ us Q I r ⟨v, .ty n, .type t, .type n, _, rfl, .ty n, tyX_of sub r1 h1, kit_ty X.K t (tyN_mem h1) n hm, k _ H G (Al.here sub rfl)⟩
    · cases e
  · rename_i x cs
    split at e
    · rename_i t ms h1 h2
      have e' := Option.some.inj e
      subst e'
      obtain ⟨v, v', ev, r1, r2⟩ := rh.two
      subst ev
      obtain ⟨a, ys, ev', hq, rys⟩ := r2
      subst ev'
      obtain ⟨u1, u2, rfl, q1, q2⟩ := vals2 r
      cases (show u2 = Value.ref a from q2)
      obtain ⟨P, Z, p, hx⟩ := kit_of I q1 (tyX_of sub r1 h1)
      obtain ⟨its, rv, ⟨⟨cls, dd, data, sl⟩, ho, hc, n, hd⟩, _⟩ := I.tuple (sqT_mono sub hq)
      simp only at hc hd
      subst hc hd
      exact PySem.W.kia_tup Z I.kIn p ho (kitAny_ty (tyN_mem h1) h2 rys rv) hx fun tk => ⟨.bl _, H, I.tok tk, rfl, k _ H G (Al.here sub rfl)⟩
    · cases e
  · cases e
end
end FL
set_option Elab.async false
set_option linter.all false
set_option maxRecDepth 100000
set_option maxHeartbeats 2000000
namespace FL
open PySem PySem.Spec L2
open PyProof.Rows hiding St
def pairs : Nat → List D → List D
  | _, [] => []
  | i, d :: ds => .tup [.int (i : Nat), d] :: pairs (i + 1) ds
def zipped : List D → List D → List D
  | a :: as, b :: bs => .tup [a, b] :: zipped as bs
  | _, _ => []
theorem pairs_get : ∀ {ds : List D} {k i : Nat} {d : D}, ds[i]? = some d → (pairs k ds)[i]? = some (.tup [.int ((k + i : Nat) : Int), d])
  | [], _, _, _, h => by simp at h
  | e :: ds, k, 0, d, h => by
    have e1 : e = d := by simpa using h
    subst e1
    rfl
  | e :: ds, k, i + 1, d, h => by
    have := pairs_get (k := k + 1) (i := i) (ds := ds) (d := d) (by simpa using h)
    have e2 : k + (i + 1) = k + 1 + i := by omega
    rw [e2]
    exact this
theorem pairs_len : ∀ {ds : List D} {k : Nat}, (pairs k ds).length = ds.length
  | [], _ => rfl
  | _ :: ds, k => by
    show (pairs (k + 1) ds).length + 1 = _
    rw [pairs_len (ds := ds)]
    rfl
theorem zipped_get : ∀ {as bs : List D} {i : Nat} {a b : D}, as[i]? = some a → bs[i]? = some b → (zipped as bs)[i]? = some (.tup [a, b])
  | [], _, _, _, _, h, _ => by simp at h
  | _ :: _, [], _, _, _, _, h => by simp at h
  | x :: as, y :: bs, 0, a, b, h1, h2 => by
    have e1 : x = a := by simpa using h1
    have e2 : y = b := by simpa using h2
    subst e1 e2
    rfl
  | x :: as, y :: bs, i + 1, a, b, h1, h2 => zipped_get (as := as) (bs := bs) (i := i) (by simpa using h1) (by simpa using h2)
theorem zipped_len : ∀ {as bs : List D}, (zipped as bs).length = min as.length bs.length
  | [], _ => by simp [zipped]
  | _ :: _, [] => by simp [zipped]
  | x :: as, y :: bs => by
    show (zipped as bs).length + 1 = _
    rw [zipped_len (as := as) (bs := bs), List.length_cons, List.length_cons]
    omega
section
variable {K : PySem.W.Frag} {mg : Str → Option Value} {G : Hp}
theorem alPair {H G : Hp} {T : Addr} {x y : V} {a b : D} (s : SubH G H) (hT : H T = none) (rx : RV K mg G a x) (ry : RV K mg G b y) : Al K mg H G (upd H T (.tup [x, y])) (upd G T (.tup [x, y])) (.ref T) (.d (.tup [a, b])) :=
  Al.tup s hT ⟨x, [y], rfl, rx, y, [], rfl, ry, rfl⟩
theorem WalkD.pair {J : It} {ps : List D} {n : Nat} {Gp : Hp → Prop} {f g : Nat → Option V} {p q : Nat → Option D} (w : Walk J n Gp (YPair f g)) (hn : n = ps.length) (hG : ∀ H, SubH G H → Gp H)
    (hf : ∀ i x, f i = some x → i < n → ∃ d, p i = some d ∧ RV K mg G d x) (hg : ∀ i x, g i = some x → i < n → ∃ d, q i = some d ∧ RV K mg G d x)
    (hp : ∀ i a b, p i = some a → q i = some b → ps[i]? = some (.tup [a, b])) : WalkD K mg J ps G := by
  refine ⟨n, Gp, _, w, hn, hG, fun i H v H' G' s1 s2 hi y => ?_⟩
  obtain ⟨T, x, z, ev, hT, eh, h1, h2⟩ := y
  subst ev eh
  obtain ⟨a, e1, r1⟩ := hf i x h1 hi
  obtain ⟨b, e2, r2⟩ := hg i z h2 hi
  exact ⟨_, _, hp i a b e1 e2, alPair s2 hT (RV.mono s1 _ _ r1) (RV.mono s1 _ _ r2)⟩
theorem WalkD.enum {J : It} {ds : List D} {xs : List V} {Gp : Hp → Prop} (w : Walk J xs.length Gp (YPair (fun i => some (.int (i : Nat))) (fun i => xs[i]?))) (r : RVs K mg G ds xs) (hG : ∀ H, SubH G H → Gp H) : WalkD K mg J (pairs 0 ds) G := by
  have one : ∀ (i : Nat) (x : V), xs[i]? = some x → ∃ d, ds[i]? = some d ∧ RV K mg G d x := fun i x h => by
    have hl : i < ds.length := by rw [r.length]; exact (List.getElem?_eq_some_iff.mp h).1
    obtain ⟨v, h1, h2⟩ := r.get (List.getElem?_eq_getElem hl)
    rw [h] at h1
    cases h1
    exact ⟨_, List.getElem?_eq_getElem hl, h2⟩
  refine WalkD.pair (p := fun i => some (.int (i : Nat))) (q := fun i => ds[i]?) w (by rw [pairs_len, r.length]) hG (fun i x h _ => ?_) (fun i x h _ => one i x h) fun i a b h1 h2 => ?_
  · have e := Option.some.inj h
    subst e
    exact ⟨_, rfl, rfl⟩
  · have e := Option.some.inj h1
    subst e
    have := pairs_get (k := 0) h2
    rw [Nat.zero_add] at this
    exact this
theorem WalkD.zip {J : It} {as bs : List D} {xs ys : List V} {n : Nat} {Gp : Hp → Prop} (w : Walk J n Gp (YPair (fun i => xs[i]?) (fun i => ys[i]?))) (hn : n = min xs.length ys.length) (r : RVs K mg G as xs) (q : RVs K mg G bs ys) (hG : ∀ H, SubH G H → Gp H) : WalkD K mg J (zipped as bs) G := by
  have one : ∀ {ds : List D} {zs : List V}, RVs K mg G ds zs → ∀ (i : Nat) (x : V), zs[i]? = some x → ∃ d, ds[i]? = some d ∧ RV K mg G d x := fun {ds zs} r i x h => by
    have hl : i < ds.length := by rw [r.length]; exact (List.getElem?_eq_some_iff.mp h).1
    obtain ⟨v, h1, h2⟩ := r.get (List.getElem?_eq_getElem hl)
    rw [h] at h1
    cases h1
    exact ⟨_, List.getElem?_eq_getElem hl, h2⟩
  exact WalkD.pair (p := fun i => as[i]?) (q := fun i => bs[i]?) w (by rw [zipped_len, hn, r.length, q.length]) hG (fun i x h _ => one r i x h) (fun i x h _ => one q i x h) fun i a b h1 h2 => zipped_get h1 h2
end
theorem walk_zipTT {K : PySem.W.Frag} {a b : Addr} {xs ys : List V} {n : Nat} (hn : n = min xs.length ys.length) : Walk (RZ.ItzT K a b) n (fun H => SqT K H a xs ∧ SqT K H b ys) (YPair (fun i => xs[i]?) (fun i => ys[i]?)) := by
  subst hn
  refine ⟨fun i H hi q => ?_, fun H q => ⟨xs, ys, q.1, q.2, by omega⟩, fun i H v H' hi q y => ?_⟩
  · have l1 : i < xs.length := by omega
    have l2 : i < ys.length := by omega
    exact ⟨xs, ys, xs[i], ys[i], q.1, q.2, by simp [l1], by simp [l2]⟩
  · obtain ⟨T, x, z, h1, h2, h3, h4, h5⟩ := y
    exact ⟨T, x, z, h1, h2, h3, h4 xs q.1, h5 ys q.2⟩
def seqD : D → Option (List D)
  | .tup ds => some ds
  | .lst ds => some ds
  | .scr ns => some (ns.map .int)
  | _ => none
def enumD : List D → Option (List D)
  | [x] => (seqD x).map (pairs 0)
  | _ => none
def isTup : D → Bool
  | .tup _ => true
  | _ => false
def zipD : List D → Option (List D)
  | [x, y] => match seqD x, seqD y with
    | some as, some bs => if (isTup x == isTup y) = true then some (zipped as bs) else none
    | _, _ => none
  | _ => none
section
variable {K : PySem.W.Frag} {mg : Str → Option Value} {Wx : WX} {σ : St} {ρ : Rho} {H G : Hp}
theorem tL_known {m : M (List D)} {P : List D → Prop} {Q : List V → Hp → Prop} (R : Rel K mg σ ρ H G) (hm : ∃ ds ρ1, m ρ = .ok ds ρ1 ∧ P ds)
    (h : ∀ ds vs ρ1 H1 G1, P ds → Rel K mg σ ρ1 H1 G1 → Fr [] σ ρ H G σ ρ1 H1 G1 → RVs K mg G1 ds vs → m ρ = .ok ds ρ1 → Q vs H1) : tL K mg Wx m σ H Q := by
  refine ⟨ρ, G, R, ?_⟩
  obtain ⟨ds, ρ1, e, p⟩ := hm
  rw [e]
  exact fun v H' G' R' F' r => h ds v ρ1 H' G' p R' F' r e
theorem seqL_of {x : D} {v : V} {ds : List D} (h : seqD x = some ds) (ht : isTup x = false) (r : RV K mg G x v) : ∃ a xs, v = .ref a ∧ SqL K G a xs ∧ RVs K mg G ds xs := by
  cases x with
  | lst es =>
    cases (show some es = some ds from h)
    obtain ⟨a, xs, ev, q, rs⟩ := r
    exact ⟨a, xs, ev, SqL.of q, rs⟩
  | scr ns =>
    cases (show some (ns.map D.int) = some ds from h)
    obtain ⟨a, ev, q⟩ := r
    exact ⟨a, _, ev, q, RVs.of_ints ns⟩
  | tup es => cases ht
  | _ => cases h
theorem seqT_of {x : D} {v : V} {ds : List D} (h : seqD x = some ds) (ht : isTup x = true) (r : RV K mg G x v) : ∃ a xs, v = .ref a ∧ SqT K G a xs ∧ RVs K mg G ds xs := by
  cases x with
  | tup es =>
    cases (show some es = some ds from h)
    obtain ⟨a, xs, ev, q, rs⟩ := r
    exact ⟨a, xs, ev, q, rs⟩
  | _ => cases ht
end
section
variable {X : Cx} {Wx : WX} {a b : Expr} {p pos tpos : Pos} {elts : List Expr} {kk : Nat} {ms : M (List D)}
theorem pmi_enum (hg : Gl X "enumerate") (hm : X.mg "enumerate" = none) (ha : PML X Wx [a] ms) (hs : starEach [a] X.env = [(false, eval a X.env)]) : PMI X Wx (.Tuple elts kk tpos) (.Call (.Name "enumerate" p) [a] [] pos) (iterL enumD ms) := by
  refine piImp (piOr (pi_enum hg hm ha hs) (pi_enumT hg hm ha hs)) fun σ H Rk h => ?_
  obtain ⟨ρ, G, R, h⟩ := h
  unfold iterL at h
  cases em : ms ρ with
  | bad => rw [em] at h; exact h.elim
  | exc c fs ρ1 => rw [em] at h; exact .inl ⟨ρ, G, R, by rw [em]; exact h⟩
  | ok ds ρ1 =>
    rw [em] at h
    have h1 : GoI X.K X.mg Wx σ ρ H G (liftM (enumD ds) ρ1) Rk := h
    unfold liftM at h1
    split at h1
    · rename_i items ei
      unfold enumD at ei
      split at ei
      · rename_i x
        obtain ⟨zs, h2, h3⟩ := Option.map_eq_some_iff.mp ei
        subst h3
        have fin : ∀ (J : It) (ρ2 : Rho) (H1 G1 : Hp), ms ρ = .ok [x] ρ2 → Rel X.K X.mg σ ρ2 H1 G1 → Fr [] σ ρ H G σ ρ2 H1 G1 → WalkD X.K X.mg J (pairs 0 zs) G1 → Rk J H1 := fun J ρ2 H1 G1 e' R1 F1 Wd => by
          rw [em] at e'
          cases e'
          exact h1 J H1 G1 R1 F1 Wd
        cases ht : isTup x with
        | true =>
          refine .inr (tL_known (P := fun ds => ds = [x]) R ⟨_, ρ1, em, rfl⟩ fun ds vs ρ2 H1 G1 pe R1 F1 rv e' => ?_)
          subst pe
          obtain ⟨y, ys, ev, ry, ey⟩ := rv
          cases (show ys = [] from ey)
          obtain ⟨q, xs, ea, sq, rs⟩ := seqT_of h2 ht ry
          exact ⟨q, xs, by rw [ev, ea], sqT_mono R1.sub sq, fin _ ρ2 H1 G1 e' R1 F1 (WalkD.enum walk_enumT rs fun H s => sqT_mono s sq)⟩
        | false =>
          refine .inl (tL_known (P := fun ds => ds = [x]) R ⟨_, ρ1, em, rfl⟩ fun ds vs ρ2 H1 G1 pe R1 F1 rv e' => ?_)
          subst pe
          obtain ⟨y, ys, ev, ry, ey⟩ := rv
          cases (show ys = [] from ey)
          obtain ⟨q, xs, ea, sq, rs⟩ := seqL_of h2 ht ry
          exact ⟨q, xs, by rw [ev, ea], sqL_mono R1.sub sq, fin _ ρ2 H1 G1 e' R1 F1 (WalkD.enum walk_enum rs fun H s => sqL_mono s sq)⟩
      · cases ei
    · exact h1.elim
theorem pmi_zip (hg : Gl X "zip") (hm : X.mg "zip" = none) (ha : PML X Wx [a, b] ms) (hs : starEach [a, b] X.env = (false, eval a X.env) :: starEach [b] X.env) (hpl : (backTo pos (starEach [b] X.env)).any (·.1) = false) :
    PMI X Wx (.Tuple elts kk tpos) (.Call (.Name "zip" p) [a, b] [] pos) (iterL zipD ms) := by
  refine piImp (RZ.pi_zipA hg hm ha hs hpl) fun σ H Rk h => ?_
  obtain ⟨ρ, G, R, h⟩ := h
  refine tL_mono (tL_bindI R h) fun vs H1 ⟨ds, ρ1, G1, R1, rv, F1, k⟩ => ?_
  unfold liftM at k
  split at k
  · rename_i items ei
    unfold zipD at ei
    split at ei
    · rename_i x y
      split at ei
      · rename_i as bs h1 h2
        split at ei
        · rename_i hb
          have e' := Option.some.inj ei
          subst e'
          obtain ⟨u, us, ev, ru, w, ws, ev2, rw', ews⟩ := rv
          cases (show ws = [] from ews)
          subst ev2
          have hb' : isTup x = isTup y := by simpa using hb
          cases ht : isTup x with
          | true =>
            obtain ⟨q, xs, ea, sq, rs⟩ := seqT_of h1 ht ru
            obtain ⟨q2, ys, ea2, sq2, rs2⟩ := seqT_of h2 (hb' ▸ ht) rw'
            exact ⟨q, q2, xs, ys, by rw [ev, ea, ea2], .inr ⟨sqT_mono R1.sub sq, sqT_mono R1.sub sq2, k _ H1 G1 R1 Fr.refl (WalkD.zip (walk_zipTT rfl) rfl rs rs2 fun H s => ⟨sqT_mono s sq, sqT_mono s sq2⟩)⟩⟩
          | false =>
            obtain ⟨q, xs, ea, sq, rs⟩ := seqL_of h1 ht ru
            obtain ⟨q2, ys, ea2, sq2, rs2⟩ := seqL_of h2 (hb' ▸ ht) rw'
            exact ⟨q, q2, xs, ys, by rw [ev, ea, ea2], .inl ⟨sqL_mono R1.sub sq, sqL_mono R1.sub sq2, k _ H1 G1 R1 Fr.refl (WalkD.zip (walk_zip rfl) rfl rs rs2 fun H s => ⟨sqL_mono s sq, sqL_mono s sq2⟩)⟩⟩
        · cases ei
      · cases ei
    · cases ei
  · exact k.elim
end
def stepW (lo hi st : Option Int) : D → Option W
  | .tup ds => match st with
    | some k => if (decide (k ≠ 0) && decide (k ≠ 1) && sizeOk (stepBy ds lo hi k).length) = true then some (.d (.tup (stepBy ds lo hi k))) else none
    | none => none
  | _ => none
def slSM (ma : M A) (ml mh mk : M (Option Int)) : M W := fun ρ => (ma ρ).bind fun x ρ => (ml ρ).bind fun lo ρ => (mh ρ).bind fun hi ρ => (mk ρ).bind fun st ρ => op1 (stepW lo hi st) x ρ
section
variable {X : Cx} {Wx : WX} {a st : Expr} {ma : M A} {pos p2 : Pos} {lo hi : Option Expr} {ml mh mk : M (Option Int)}
theorem pm_slS (ha : PMA X Wx a ma) (hl : PMO X Wx lo ml) (hh : PMO X Wx hi mh) (hk : PMO X Wx (some st) mk) : PM X Wx (.Subscript a (.Slice lo hi (some st) p2) pos) (slSM ma ml mh mk) := by
  refine peImp (pe_sliceS ha hl hh hk) fun σ H Q h => ?_
  obtain ⟨ρ, G, R, h⟩ := h
  refine tA_mono (tA_bind R h) fun v H1 ⟨x, ρ1, G1, R1, rv, F1, k⟩ => ?_
  refine tO2_mono (tO2_bind R1 k) fun l H2 ⟨ρ2, G2, R2, F2, k2⟩ => ?_
  refine tO2_mono (tO2_bind R2 k2) fun u H3 ⟨ρ3, G3, R3, F3, k3⟩ => ?_
  refine tO2_mono (tO2_bind R3 k3) fun z H4 ⟨ρ4, G4, R4, F4, k4⟩ => ?_
  obtain ⟨G5, d, w, sub, rh, e, kk⟩ := op1_go R4 (rv.mono ((F2.grow.trans F3.grow).trans F4.grow)) k4
  unfold stepW at e
  split at e
  · rename_i ds
    cases z with
    | none => cases e
    | some c =>
      dsimp only at e
      split at e
      · rename_i hs
        have e' := Option.some.inj e
        subst e'
        rw [Bool.and_eq_true, Bool.and_eq_true] at hs
        obtain ⟨⟨h0, h1⟩, h2⟩ := hs
        obtain ⟨p, xs, ev, hq, rs⟩ := rh
        have rst := stepBy_rel (lo := l) (hi := u) (st := c) rs
        exact ⟨p, xs, c, ev, sqT_mono sub hq, rfl, of_decide_eq_true h0, of_decide_eq_true h1, by rw [← rst.length]; exact sizeOk_le h2, fun q hq => kk _ _ _ (Al.tup sub hq rst)⟩
      · cases e
  · cases e
end
end FL
set_option Elab.async false
set_option linter.all false
set_option maxRecDepth 100000
set_option maxHeartbeats 2000000
namespace FL
open PySem PySem.Spec L2
open PyProof.Rows hiding St
section
variable {K : PySem.W.Frag} {mg : Str → Option Value} {Wx : WX} {σ : St} {ρ : Rho} {H G : Hp}
/-- a slot's own object changes -/
theorem Rel.change {i : Nat} {x y : D} {a : Addr} {o : HO} (R : Rel K mg σ ρ H G) (e : ρ[i]? = some (some (.own x))) (s : σ[i]? = some (some (.ref a))) (ro : RO K mg (upd H a o) G a y) :
    Rel K mg σ (ρ.set i (some (.own y))) (upd H a o) G ∧ Fr [] σ ρ H G σ (ρ.set i (some (.own y))) (upd H a o) G := by
  obtain ⟨v, s', a', ev, ga, ro0⟩ := R.slot i _ e
  rw [s] at s'
  cases s'
  cases ev
  have hi : i < ρ.length := (List.getElem?_eq_some_iff.mp e).1
  have at_ : ∀ (j : Nat) (w : W), (ρ.set i (some (.own y)))[j]? = some (some w) → (j = i ∧ w = .own y) ∨ (j ≠ i ∧ ρ[j]? = some (some w)) := fun j w h => by
    by_cases hj : j = i
    · subst hj
      rw [List.getElem?_set_self hi] at h
      cases h
      exact .inl ⟨rfl, rfl⟩
    · rw [List.getElem?_set_ne (Ne.symm hj)] at h
      exact .inr ⟨hj, h⟩
  have was : ∀ (j : Nat) (z : D), (ρ.set i (some (.own y)))[j]? = some (some (.own z)) → ∃ z', ρ[j]? = some (some (.own z')) := fun j z h => by
    rcases at_ j _ h with ⟨rfl, _⟩ | ⟨_, h'⟩
    · exact ⟨x, e⟩
    · exact ⟨z, h'⟩
  refine ⟨⟨by rw [List.length_set]; exact R.len, fun b u hb => ?_, fun j w hw => ?_, fun j k u z v h1 h2 h3 h4 => ?_⟩, ⟨SubH.refl, fun b u hb hg hn => ⟨?_, hg, fun ⟨j, z, h1, h2⟩ => ?_⟩, fun _ h => absurd h (by simp), rfl⟩⟩
  · rw [upd_ne (fun z => by rw [z, ga] at hb; cases hb)]
    exact R.sub b u hb
  · rcases at_ j w hw with ⟨rfl, rfl⟩ | ⟨hj, hw'⟩
    · exact ⟨_, s, a, rfl, ga, ro⟩
    · obtain ⟨v, sj, q⟩ := R.slot j w hw'
      refine ⟨v, sj, q.mono SubH.refl fun z b e1 e2 => ?_⟩
      subst e1 e2
      have hne : b ≠ a := fun z' => hj (R.dis j i z x _ hw' e sj (by rw [s, z']))
      obtain ⟨b', eb, gb, _⟩ := q
      cases eb
      exact ⟨upd_ne hne, gb⟩
  · obtain ⟨u', h1'⟩ := was j u h1
    obtain ⟨z', h2'⟩ := was k z h2
    exact R.dis j k u' z' v h1' h2' h3 h4
  · rw [upd_ne (fun z => hn ⟨i, x, e, by rw [s, z]⟩)]
    exact hb
  · obtain ⟨z', h1'⟩ := was j z h1
    exact hn ⟨j, z', h1', h2⟩
end
def putD (kvs : List (Key × D)) (k : Key) (d : D) : List (Key × D) :=
  if (kvs.any fun p => decide (p.1 = k)) = true then kvs.map (fun p => if p.1 = k then (p.1, d) else p) else kvs ++ [(k, d)]
def setW : D → D → D → Option D
  | .lst ds, .int i, v => (ixN ds.length i).map fun j => .lst (ds.set j v)
  | .dct kvs, y, v => match keyD y with
    | some k => if decide (kvs.length < 16777216) = true then some (.dct (putD kvs k v)) else none
    | none => none
  | _, _, _ => none
section
variable {K : PySem.W.Frag} {mg : Str → Option Value} {G : Hp} {k : Key} {d : D} {v : V}
theorem RKs.any : ∀ {kvs : List (Key × D)} {vs : List (Key × V)}, RKs K mg G kvs vs → (kvs.any fun p => decide (p.1 = k)) = vs.any fun p => decide (p.1 = k)
  | [], vs, r => by cases (show vs = [] from r); rfl
  | (k', d') :: kvs, vs, ⟨y, ys, e, r, t⟩ => by
    subst e
    rw [List.any_cons, List.any_cons, RKs.any t]
theorem RKs.putAll (rv : RV K mg G d v) : ∀ {kvs : List (Key × D)} {vs : List (Key × V)}, RKs K mg G kvs vs → RKs K mg G (kvs.map fun p => if p.1 = k then (p.1, d) else p) (vs.map fun p => if p.1 = k then (p.1, v) else p)
  | [], vs, r => by cases (show vs = [] from r); rfl
  | (k', d') :: kvs, vs, ⟨y, ys, e, r, t⟩ => by
    subst e
    have ih := RKs.putAll rv t
    rw [List.map_cons, List.map_cons]
    by_cases h : k' = k
    · rw [if_pos h, if_pos h]
      exact ⟨v, _, rfl, rv, ih⟩
    · rw [if_neg h, if_neg h]
      exact ⟨y, _, rfl, r, ih⟩
theorem RKs.snoc (rv : RV K mg G d v) : ∀ {kvs : List (Key × D)} {vs : List (Key × V)}, RKs K mg G kvs vs → RKs K mg G (kvs ++ [(k, d)]) (vs ++ [(k, v)])
  | [], vs, r => by cases (show vs = [] from r); exact ⟨v, [], rfl, rv, rfl⟩
  | (k', d') :: kvs, vs, ⟨y, ys, e, r, t⟩ => by
    subst e
    exact ⟨y, _, rfl, r, RKs.snoc rv t⟩
theorem putD_rel (rv : RV K mg G d v) {kvs : List (Key × D)} {vs : List (Key × V)} (r : RKs K mg G kvs vs) : RKs K mg G (putD kvs k d) (putK vs k v) := by
  unfold putD putK
  rw [r.any]
  split
  · exact RKs.putAll rv r
  · exact RKs.snoc rv r
end
/-- slot i's own object takes a value at an index -/
def setSubM (i : Nat) (mv : M W) (mi : M A) : M Fl := fun ρ => (mv ρ).dat fun x ρ => match ρ[i]? with
  | some (some (.own _)) => (mi ρ).bind fun a ρ => match ρ[i]?, a.res ρ with
    | some (some (.own c)), some k => match setW c k x with
      | some c' => .ok .nx (ρ.set i (some (.own c')))
      | none => .bad
    | _, _ => .bad
  | _ => .bad
/-- o[i] = v by values: a list or a dict -/
def rSetA : TSet := fun o i v H Q => rSetL o i v H Q ∨ rSetD o i v H Q
theorem set_any {X : Cx} (hu : X.A.units + 1 < cLine) : PSet X rSetA := by
  intro pins s σ H o i v ov iv u Q I ro ri rv h
  rcases h with h | h
  · exact set_list pins s σ H o i v ov iv u Q I ro ri rv h
  · exact set_dict hu pins s σ H o i v ov iv u Q I ro ri rv h
theorem set_go {K : PySem.W.Frag} {mg : Str → Option Value} {σ : St} {ρ : Rho} {H G : Hp} {i : Nat} {c c' k x : D} {a : Addr} {y v : V} {Q : Hp → Prop} (R : Rel K mg σ ρ H G) (e : ρ[i]? = some (some (.own c))) (s : σ[i]? = some (some (.ref a))) (ry : RH K mg H G k y) (rv : RV K mg G x v)
    (hs : setW c k x = some c') (q : ∀ H', Rel K mg σ (ρ.set i (some (.own c'))) H' G → Fr [] σ ρ H G σ (ρ.set i (some (.own c'))) H' G → Q H') : rSetA (.ref a) y v H Q := by
  obtain ⟨_, s', a', ev, ga, ro⟩ := R.slot i _ e
  rw [s] at s'
  cases s'
  cases ev
  unfold setW at hs
  split at hs
  · rename_i ds j
    obtain ⟨n, hn, ec⟩ := Option.map_eq_some_iff.mp hs
    subst ec
    cases (show y = .int j from ry)
    obtain ⟨xs, hx, rx⟩ := ro
    obtain ⟨R', F'⟩ := R.change (y := .lst (ds.set n x)) (o := .lst (xs.set n v)) e s ⟨_, upd_same, rx.set rv n⟩
    exact .inl ⟨a, xs, j, n, rfl, rfl, hx, by rw [← rx.length]; exact hn, q _ R' F'⟩
  · rename_i kvs
    split at hs
    · rename_i kk hk
      split at hs
      · rename_i hl
        have ec := Option.some.inj hs
        subst ec
        obtain ⟨ks, hx, rx⟩ := ro
        have ey := keyD_ok hk ry
        subst ey
        obtain ⟨R', F'⟩ := R.change (y := .dct (putD kvs kk x)) (o := .dK (putK ks kk v)) e s ⟨_, upd_same, putD_rel rv rx⟩
        exact .inr ⟨a, _, rfl, DPut.k hx (by rw [sizeLine_eq, ← rx.length]; exact of_decide_eq_true hl), q _ R' F'⟩
      · cases hs
    · cases hs
  · cases hs
def noSlice : Expr → Bool
  | .Slice .. => false
  | _ => true
section
variable {X : Cx} {Wx : WX} {io : List Nat} {e ix : Expr} {pos p p' : Pos} {x : Str} {i : Nat} {mv : M W} {mi : M A}
theorem pms_setSub (hu : X.A.units + 1 < cLine) (hN : X.N[i]? = some x) (hv : Vis X.env.scope x) (hd : (x == ("__debug__" : Str)) = false) (hcd : (x == ("__classdict__" : Str)) = false) (he : PM X Wx e mv) (hi : PMA X Wx ix mi) (hns : noSlice ix = true) :
    PMS X Wx io (.Assign [.Subscript (.Name x p) ix p'] e pos) (setSubM i mv mi) := by
  have h1 : swapsWithSole [.Subscript (.Name x p) ix p'] e pos.line X.env = pure false := by cases e <;> rfl
  have h2 : swappedStores [.Subscript (.Name x p) ix p'] e X.env = pure none := by cases e <;> rfl
  have h3 : ∀ v, assign (.Subscript (.Name x p) ix p') X.env v = (do
      let ov ← holding [v] (eval (.Name x p) X.env)
      let iv ← holding [v, ov] (eval ix X.env)
      standAt p'
      holding [v, ov, iv] (setItem ov iv v)
      release [v, ov, iv] []) := by
    intro v
    cases ix <;> first
      | rfl
      | cases hns
  refine psImp (ps_asg he (pg_sub (pe_var hN hv hd hcd) hi (set_any hu) h3) h1 h2 rfl) fun D σ H h => ?_
  obtain ⟨ρ, G, R, h⟩ := h
  refine tM_mono (tM_datS (io := io) R h) fun v H1 ⟨d, ρ1, G1, R1, rv, F1, k⟩ => ?_
  split at k
  · rename_i c0 e0
    obtain ⟨ov, s0, a, ea, _⟩ := R1.slot i _ e0
    subst ea
    refine ⟨_, s0, ?_⟩
    refine tA_mono (tA_bindS (io := io) R1 k) fun y H2 ⟨ia, ρ2, G2, R2, ry, F2, k2⟩ => ?_
    split at k2
    · rename_i c kk e1 e2
      split at k2
      · rename_i c' hs
        have F12 : Fr io σ ρ1 H1 G1 σ ρ2 H2 G2 := F2
        exact set_go R2 e1 s0 (ry.read R2 e2) (RV.mono F2.grow _ _ rv) hs fun H' R' F' => k2 σ H' G2 R' F'.io_nil
      · exact k2.elim
    · exact k2.elim
  · exact k.elim
end
end FL
set_option Elab.async false
set_option linter.all false
set_option maxRecDepth 100000
set_option maxHeartbeats 2000000
namespace FL
open PySem PySem.Spec L2
open PyProof.Rows hiding St
def appM (i : Nat) (m : M W) : M W := fun ρ => match ρ[i]? with
  | some (some (.own (.lst _))) => (m ρ).dat fun x ρ => match ρ[i]? with
    | some (some (.own (.lst xs))) => if sizeOk (xs.length + 1) = true then .ok (.d .non) (ρ.set i (some (.own (.lst (xs ++ [x]))))) else .bad
    | _ => .bad
  | _ => .bad
def popM (i : Nat) : M W := fun ρ => match ρ[i]? with
  | some (some (.own (.lst xs))) => match xs[xs.length - 1]? with
    | some d => .ok (.d d) (ρ.set i (some (.own (.lst xs.dropLast))))
    | none => .bad
  | _ => .bad
def bitsW : D → Option W
  | .int i => some (.d (.int (Builtin.Int.intBits i : Nat)))
  | _ => none
def bitsM (ma : M A) : M W := fun ρ => (ma ρ).bind fun x ρ => op1 bitsW x ρ
section
variable {X : Cx} {Wx : WX} {e : Expr} {pos p apos : Pos} {x : Str} {i : Nat} {m : M W} {ma : M A}
theorem pm_append (hN : X.N[i]? = some x) (hv : Vis X.env.scope x) (hd : (x == ("__debug__" : Str)) = false) (hcd : (x == ("__classdict__" : Str)) = false) (he : PM X Wx e m) (hs : starEach [e] X.env = [(false, eval e X.env)]) (hline : (apos.endLine == pos.line) = true) :
    PM X Wx (.Call (.Attribute (.Name x p) "append" apos) [e] [] pos) (appM i m) := by
  refine peImp (pe_bm PySem.F.plainAttrs_list PySem.F.slot_list_append PySem.F.type_list_append mt_append (pe_var hN hv hd hcd) (pa_cons he pa_nil hs) rfl (by rw [hs]; rfl) hline hs rfl) fun σ H Q h => ?_
  obtain ⟨ρ, G, R, h⟩ := h
  unfold appM at h
  split at h
  · rename_i c0 e0
    obtain ⟨ov, s0, a, ea, ga, xs0, hx0, rx0⟩ := R.slot i _ e0
    subst ea
    refine ⟨_, s0, .inl ⟨rfl, xs0, SqL.of hx0⟩, ?_⟩
    refine tM_mono (tM_dat R h) fun v H1 ⟨d, ρ1, G1, R1, rv, F1, k⟩ => ?_
    split at k
    · rename_i ds e1
      split at k
      · rename_i hz
        obtain ⟨_, s', a', ea, _, xs, hx, rx⟩ := R1.slot i _ e1
        rw [s0] at s'
        cases s'
        cases ea
        obtain ⟨R', F'⟩ := R1.change (y := .lst (ds ++ [d])) (o := .lst (xs ++ [v])) e1 s0 ⟨_, upd_same, rx.append (RVs.one rv)⟩
        exact ⟨a, xs, v, rfl, rfl, hx, by rw [← rx.length]; exact Nat.lt_of_succ_le (sizeOk_le hz), k _ _ _ R' F' ⟨rfl, fun _ _ z => nomatch z⟩⟩
      · exact k.elim
    · exact k.elim
  · exact h.elim
theorem pm_pop (hN : X.N[i]? = some x) (hv : Vis X.env.scope x) (hd : (x == ("__debug__" : Str)) = false) (hcd : (x == ("__classdict__" : Str)) = false) (hline : (apos.endLine == pos.line) = true) :
    PM X Wx (.Call (.Attribute (.Name x p) "pop" apos) [] [] pos) (popM i) := by
  refine peImp (pe_bm0 PySem.F.plainAttrs_list PySem.F.slot_list_pop PySem.F.type_list_pop mt_pop (pe_var hN hv hd hcd) rfl hline) fun σ H Q h => ?_
  obtain ⟨ρ, G, R, h⟩ := h
  unfold popM at h
  split at h
  · rename_i ds e0
    split at h
    · rename_i d ed
      obtain ⟨ov, s0, a, ea, ga, xs, hx, rx⟩ := R.slot i _ e0
      subst ea
      obtain ⟨v, hv2, rv⟩ := rx.get ed
      have l := rx.length
      have rd : RVs X.K X.mg G ds.dropLast xs.dropLast := by
        rw [List.dropLast_eq_take, List.dropLast_eq_take, ← l]
        exact rx.take _
      obtain ⟨R', F'⟩ := R.change (y := .lst ds.dropLast) (o := .lst xs.dropLast) e0 s0 ⟨_, upd_same, rd⟩
      exact ⟨_, s0, .inl ⟨rfl, xs, SqL.of hx⟩, a, xs, v, rfl, rfl, hx, by rw [← l]; exact hv2, h v _ _ R' F' ⟨rv, fun _ _ z => nomatch z⟩⟩
    · exact h.elim
  · exact h.elim
theorem pm_bits (ha : PMA X Wx e ma) (hb : attributeBase e "bit_length" X.env (eval e X.env) = eval e X.env) (hline : (apos.endLine == pos.line) = true) : PM X Wx (.Call (.Attribute e "bit_length" apos) [] [] pos) (bitsM ma) := by
  refine peImp (pe_bits ha hb hline) fun σ H Q h => ?_
  obtain ⟨ρ, G, R, h⟩ := h
  refine tA_mono (tA_bind R h) fun v H1 ⟨a, ρ1, G1, R1, rv, F1, k⟩ => ?_
  obtain ⟨G5, d, w, sub, rh, e', kk⟩ := op1_go R1 rv k
  unfold bitsW at e'
  split at e'
  · have e2 := Option.some.inj e'
    subst e2
    exact ⟨_, rh, kk _ H1 G5 (Al.here sub rfl)⟩
  · cases e'
end
def parM (io : List Nat) (i j : Nat) (m1 m2 : M W) : M Fl := fun ρ => (m1 ρ).bind fun w1 ρ => (m2 ρ).bind fun w2 ρ =>
  if (io.contains i || io.contains j) = true then .bad else .ok .nx ((ρ.set i (some w1)).set j (some w2))
section
variable {X : Cx} {Wx : WX} {io : List Nat} {a b : Expr} {pos px py pt pt2 : Pos} {x y : Str} {i j kt k2 : Nat} {m1 m2 : M W}
theorem pms_par (hc : X.calm = true) (hN : X.N.Nodup) (hi : X.N[i]? = some x) (hj : X.N[j]? = some y) (hij : i ≠ j) (hx : X.env.scope.names.lookup x = some .local) (hy : X.env.scope.names.lookup y = some .local)
    (ha : PM X Wx a m1) (hb : PM X Wx b m2) (hs : starEach [a, b] X.env = (false, eval a X.env) :: starEach [b] X.env) (hs2 : starEach [b] X.env = [(false, eval b X.env)])
    (hw : swappedStores [.Tuple [.Name x px, .Name y py] kt pt] (.Tuple [a, b] k2 pt2) X.env = pure (some [x, y])) :
    PMS X Wx io (.Assign [.Tuple [.Name x px, .Name y py] kt pt] (.Tuple [a, b] k2 pt2) pos) (parM io i j m1 m2) := by
  refine psImp (ps_par hc hN hi hj hij hx hy (pa_cons ha (pa_cons hb pa_nil hs2) hs) hw rfl) fun D σ H h => ?_
  obtain ⟨ρ, G, R, h⟩ := h
  refine tM_mono (tM_bindS (io := io) R h) fun v1 H1 ⟨w1, ρ1, G1, R1, F1, r1, k⟩ => ?_
  -- told from the first value's state
  cases e2 : m2 ρ1 with
  | bad => rw [e2] at k; exact k.elim
  | exc c fs ρ2 =>
    rw [e2] at k
    refine ⟨ρ1, G1, R1, ?_⟩
    rw [e2]
    exact fun cls od H' G' R' F' rx => k cls od σ H' G' R' (F1.trans F'.io_nil) rx
  | ok w2 ρ2 =>
    rw [e2] at k
    refine ⟨ρ1, G1, R1, ?_⟩
    rw [e2]
    intro v2 H2 G2 R2 F2 r2
    have k' : GoS X.K X.mg Wx io σ ρ H G (if (io.contains i || io.contains j) = true then .bad else .ok .nx ((ρ2.set i (some w1)).set j (some w2))) D := k
    split at k'
    · exact k'.elim
    · rename_i hio
      have hio' : (io.contains i || io.contains j) = false := by simpa using hio
      rw [Bool.or_eq_false_iff] at hio'
      have ni : i ∉ io := fun z => by have := hio'.1; rw [show io.contains i = true by simpa using z] at this; cases this
      have nj : j ∉ io := fun z => by have := hio'.2; rw [show io.contains j = true by simpa using z] at this; cases this
      have F12 : Fr io σ ρ H G σ ρ2 H2 G2 := F1.trans F2.io_nil
      -- the first value's own object is kept by the second part
      have own1 : ∀ z p, w1 = .own z → v1 = .ref p → ∃ o, H1 p = some o ∧ H2 p = some o ∧ G2 p = none ∧ ¬ OwnS σ ρ2 p ∧ ¬ OwnS σ ρ1 p := fun z p ew ev => by
        subst ew
        obtain ⟨p', ep, gp, ro⟩ := r1.1
        rw [ev] at ep
        cases ep
        obtain ⟨o, ho, _⟩ := ro.there
        obtain ⟨n1, _⟩ := r1.2 z p rfl ev
        obtain ⟨h1, h2, h3⟩ := F2.keep p o ho gp n1
        exact ⟨o, ho, h1, h2, h3, n1⟩
      have rw1 : RW X.K X.mg H2 G2 v1 w1 := r1.1.mono F2.grow fun z p ew ev => by
        obtain ⟨o, h1, h2, h3, _⟩ := own1 z p ew ev
        exact ⟨h2.trans h1.symm, h3⟩
      obtain ⟨R3, F3⟩ := R2.store F12 rw1 (fun z p ew ev => ⟨(own1 z p ew ev).choose_spec.2.2.2.1, fun o ho => (r1.2 z p ew ev).2 o ho⟩) ni
      have rb := RR.back F1 F2.grow r2
      have apart : ∀ z p, w2 = .own z → v2 = .ref p → ¬ OwnS (σ.set i (some v1)) (ρ2.set i (some w1)) p := fun z p ew ev ⟨q, u, z1, z2⟩ => by
        by_cases hq : q = i
        · subst hq
          have hl : q < ρ2.length := by
            have := (List.getElem?_eq_some_iff.mp z1).1
            rwa [List.length_set] at this
          rw [List.getElem?_set_self hl] at z1
          rw [List.getElem?_set_self (by rw [← R2.len]; exact hl)] at z2
          have ew1 : w1 = .own u := by simpa using z1
          have ev1 : v1 = .ref p := by simpa using z2
          obtain ⟨o, h1, _, _, _, n1⟩ := own1 u p ew1 ev1
          exact n1 ((r2.2 z p ew ev).2 o h1)
        · rw [List.getElem?_set_ne (Ne.symm hq)] at z1
          rw [List.getElem?_set_ne (Ne.symm hq)] at z2
          exact (r2.2 z p ew ev).1 ⟨q, u, z1, z2⟩
      obtain ⟨R4, F4⟩ := R3.store F3 r2.1 (fun z p ew ev => ⟨apart z p ew ev, fun o ho => (rb.2 z p ew ev).2 o ho⟩) nj
      exact ⟨v1, v2, rfl, k' _ H2 G2 R4 F4⟩
end
theorem pm_glob {X : Cx} {Wx : WX} {x : Str} {pos : Pos} {d : D} {v : V} {u : Value} (hg : Gl X x) (hm : X.mg x = some u) (rv : RelV v u) (r : RV X.K X.mg (fun _ => none) d v) (hd : (x == ("__debug__" : Str)) = false) : PM X Wx (.Name x pos) (constM d) :=
  pm_const (pe_glob hg hm rv hd) r
theorem pm_bltn {X : Cx} {Wx : WX} {x : Str} {pos : Pos} {n : String} (hg : Gl X x) (hm : X.mg x = none) (hv : bootBuiltins x = some (.type n)) (hn : x ≠ "__name__") (hd : (x == ("__debug__" : Str)) = false) : PM X Wx (.Name x pos) (constM (.ty n)) :=
  pm_const (pe_bltn (v := .ty n) hg hm hv rfl hn hd) rfl
end FL
set_option Elab.async false
set_option linter.all false
set_option maxRecDepth 100000
set_option maxHeartbeats 2000000
namespace FL
open PySem PySem.Spec L2
open PyProof.Rows hiding St
section
variable {K : PySem.W.Frag} {mg : Str → Option Value} {Wx : WX} {σ : St} {ρ ρ1 : Rho} {H H1 G G1 : Hp}
/-- an object that nobody here holds is written -/
theorem Rel.aside {p : Addr} {o : HO} (R : Rel K mg σ ρ H G) (gp : G p = none) (np : ¬ OwnS σ ρ p) : Rel K mg σ ρ (upd H p o) G := by
  refine ⟨R.len, fun b u hb => ?_, fun i w hw => ?_, R.dis⟩
  · rw [upd_ne (fun z => by rw [z, gp] at hb; cases hb)]
    exact R.sub b u hb
  · obtain ⟨v, s, q⟩ := R.slot i w hw
    refine ⟨v, s, q.mono SubH.refl fun x a e1 e2 => ?_⟩
    subst e1 e2
    obtain ⟨a', ea, ga, ro⟩ := q
    cases ea
    exact ⟨upd_ne fun z => np ⟨i, x, hw, by rw [s, z]⟩, ga⟩
theorem Fr.aside {p : Addr} {o o' : HO} (hp : H p = none) (F : Fr [] σ ρ (upd H p o) G σ ρ1 H1 G1) : Fr [] σ ρ H G σ ρ1 (upd H1 p o') G1 := by
  refine ⟨F.grow, fun b u hb hg hn => ?_, F.fix, F.len⟩
  have hne : b ≠ p := fun z => by rw [z, hp] at hb; cases hb
  obtain ⟨k1, k2, k3⟩ := F.keep b u (by rw [upd_ne hne]; exact hb) hg hn
  exact ⟨by rw [upd_ne hne]; exact k1, k2, k3⟩
theorem Fr.aside0 {p : Addr} {o : HO} (hp : H p = none) (F : Fr [] σ ρ (upd H p o) G σ ρ1 H1 G1) : Fr [] σ ρ H G σ ρ1 H1 G1 := by
  refine ⟨F.grow, fun b u hb hg hn => F.keep b u ?_ hg hn, F.fix, F.len⟩
  rw [upd_ne (fun z => by rw [z, hp] at hb; cases hb)]
  exact hb
theorem Rel.noG {p : Addr} (R : Rel K mg σ ρ H G) (hp : H p = none) : G p = none ∧ ¬ OwnS σ ρ p := by
  refine ⟨?_, fun ⟨i, x, h1, h2⟩ => ?_⟩
  · cases e : G p with
    | none => rfl
    | some o => have := R.sub _ _ e; rw [hp] at this; cases this
  · obtain ⟨v, s, a, ev, _, ro⟩ := R.slot i _ h1
    rw [h2] at s
    cases s
    cases ev
    obtain ⟨o, ho, _⟩ := ro.there
    rw [hp] at ho
    cases ho
end
def dispM : List (Key × M W) → M (List (Key × D))
  | [] => fun ρ => .ok [] ρ
  | (k, m) :: r => fun ρ => (m ρ).dat fun x ρ => (dispM r ρ).bind fun ps ρ => .ok ((k, x) :: ps) ρ
def mergeD (kvs more : List (Key × D)) : List (Key × D) := more.foldl (fun acc p => putD acc p.1 p.2) kvs
def dictM (ks : List (Key × M W)) : M W := fun ρ => (dispM ks ρ).bind fun kvs ρ => .ok (.own (.dct (mergeD [] kvs))) ρ
def trsOf (K : PySem.W.Frag) (mg : Str → Option Value) (Wx : WX) (ks : List (Key × M W)) : List (TE × TE) := ks.map fun p => (tC (kV p.1), tM K mg Wx p.2)
theorem merge_rel {K : PySem.W.Frag} {mg : Str → Option Value} {G : Hp} : ∀ {more : List (Key × D)} {ms : List (Key × V)} {kvs : List (Key × D)} {vs : List (Key × V)}, RKs K mg G kvs vs → RKs K mg G more ms → RKs K mg G (mergeD kvs more) (mergeK vs ms)
  | [], ms, _, _, r, q => by cases (show ms = [] from q); exact r
  | (k, d) :: more, ms, kvs, vs, r, ⟨y, ys, e, q, t⟩ => by
    subst e
    exact merge_rel (kvs := putD kvs k d) (vs := putK vs k y) (putD_rel q r) t
section
variable {K : PySem.W.Frag} {mg : Str → Option Value} {Wx : WX} {σ : St}
theorem disp_go {p : Addr} : ∀ {ks : List (Key × M W)} {ρ : Rho} {H G : Hp} {Qp : List (V × V) → Hp → Prop}, Rel K mg σ ρ H G → H p = some (.dK []) → G p = none → ¬ OwnS σ ρ p →
    (match dispM ks ρ with
      | .ok kvs ρ' => ∀ H' G' vs, Rel K mg σ ρ' H' G' → Fr [] σ ρ H G σ ρ' H' G' → RKs K mg G' kvs vs → H' p = some (.dK []) → G' p = none → ¬ OwnS σ ρ' p → Qp (vs.map fun kv => (kV kv.1, kv.2)) H'
      | .exc c fs ρ' => ∀ cls od H' G', Rel K mg σ ρ' H' G' → Fr [] σ ρ H G σ ρ' H' G' → RX K mg H' G' cls od c fs → Wx cls od σ H'
      | .bad => False) → tPairs (trsOf K mg Wx ks) σ H Qp
  | [], ρ, H, G, Qp, R, hp, gp, np, h => h H G [] R Fr.refl rfl hp gp np
  | (k, m) :: ks, ρ, H, G, Qp, R, hp, gp, np, h => by
    show tM K mg Wx m σ H fun y H2 => tPairs (trsOf K mg Wx ks) σ H2 fun ps H3 => Qp ((kV k, y) :: ps) H3
    refine ⟨ρ, G, R, ?_⟩
    have h' : (match ((m ρ).dat fun x ρ => (dispM ks ρ).bind fun ps ρ => .ok ((k, x) :: ps) ρ) with
      | .ok kvs ρ' => ∀ H' G' vs, Rel K mg σ ρ' H' G' → Fr [] σ ρ H G σ ρ' H' G' → RKs K mg G' kvs vs → H' p = some (.dK []) → G' p = none → ¬ OwnS σ ρ' p → Qp (vs.map fun kv => (kV kv.1, kv.2)) H'
      | .exc c fs ρ' => ∀ cls od H' G', Rel K mg σ ρ' H' G' → Fr [] σ ρ H G σ ρ' H' G' → RX K mg H' G' cls od c fs → Wx cls od σ H'
      | .bad => False) := h
    cases em : m ρ with
    | bad => rw [em] at h'; exact h'.elim
    | exc c fs ρ1 => rw [em] at h'; exact h'
    | ok w ρ1 =>
      rw [em] at h'
      intro v H1 G1 R1 F1 r1
      obtain ⟨G2, R2, F2, rv⟩ := keep_res R1 F1 r1
      obtain ⟨k1, k2, k3⟩ := F2.keep p _ hp gp np
      refine disp_go R2 k1 k2 k3 ?_
      have h2 : (match ((dispM ks ρ1).bind fun ps ρ => .ok ((k, w.data) :: ps) ρ) with
        | .ok kvs ρ' => ∀ H' G' vs, Rel K mg σ ρ' H' G' → Fr [] σ ρ H G σ ρ' H' G' → RKs K mg G' kvs vs → H' p = some (.dK []) → G' p = none → ¬ OwnS σ ρ' p → Qp (vs.map fun kv => (kV kv.1, kv.2)) H'
        | .exc c fs ρ' => ∀ cls od H' G', Rel K mg σ ρ' H' G' → Fr [] σ ρ H G σ ρ' H' G' → RX K mg H' G' cls od c fs → Wx cls od σ H'
        | .bad => False) := h'
      cases ed : dispM ks ρ1 with
      | bad => rw [ed] at h2; exact h2
      | exc c fs ρ2 => rw [ed] at h2; exact fun cls od H' G' R' F' rx => h2 cls od H' G' R' (F2.trans F') rx
      | ok kvs ρ2 =>
        rw [ed] at h2
        exact fun H' G' vs R' F' rk a b c => h2 H' G' ((k, v) :: vs) R' (F2.trans F') ⟨v, vs, rfl, RV.mono F'.grow _ _ rv, rk⟩ a b c
theorem dict_go {ks : List (Key × M W)} {H : Hp} {Q : VK} (h15 : ks.length ≤ 15) (h : tM K mg Wx (dictM ks) σ H Q) : tDisp (trsOf K mg Wx ks) σ H Q := by
  obtain ⟨ρ, G, R, h⟩ := h
  intro p hp
  obtain ⟨gp, np⟩ := R.noG hp
  have R0 : Rel K mg σ ρ (upd H p (.dK [])) G := R.aside gp np
  refine disp_go R0 upd_same gp np ?_
  have h' : GoE K mg Wx σ ρ H G ((dispM ks ρ).bind fun kvs ρ => .ok (.own (.dct (mergeD [] kvs))) ρ) Q := h
  have len : ∀ {ks : List (Key × M W)} {ρ ρ' : Rho} {kvs : List (Key × D)}, dispM ks ρ = .ok kvs ρ' → kvs.length = ks.length := fun {ks} => by
    induction ks with
    | nil => intro ρ ρ' kvs e; cases e; rfl
    | cons km ks ih =>
      intro ρ ρ' kvs e
      obtain ⟨k, m⟩ := km
      have e' : ((m ρ).dat fun x ρ => (dispM ks ρ).bind fun ps ρ => .ok ((k, x) :: ps) ρ) = .ok kvs ρ' := e
      cases em : m ρ with
      | bad => rw [em] at e'; cases e'
      | exc c fs ρ1 => rw [em] at e'; cases e'
      | ok w ρ1 =>
        rw [em] at e'
        have e2 : ((dispM ks ρ1).bind fun ps ρ => .ok ((k, w.data) :: ps) ρ) = .ok kvs ρ' := e'
        cases ed : dispM ks ρ1 with
        | bad => rw [ed] at e2; cases e2
        | exc c fs ρ2 => rw [ed] at e2; cases e2
        | ok ps ρ2 =>
          rw [ed] at e2
          cases e2
          rw [List.length_cons, List.length_cons, ih ed]
  cases ed : dispM ks ρ with
  | bad => rw [ed] at h'; exact h'
  | exc c fs ρ1 => rw [ed] at h'; exact fun cls od H' G' R' F' rx => h' cls od H' G' R' (Fr.aside0 hp F') rx
  | ok kvs ρ1 =>
    rw [ed] at h'
    intro H' G' vs R' F' rk hp' gp' np'
    have hl : vs.length ≤ 15 := by rw [← rk.length, len ed]; exact h15
    refine ⟨hp', vs, rfl, hl, ?_⟩
    have rm : RKs K mg G' (mergeD [] kvs) (mergeK [] vs) := merge_rel rfl rk
    refine h' (.ref p) (upd H' p (.dK (mergeK [] vs))) G' (R'.aside gp' np') (Fr.aside hp F') ⟨⟨p, rfl, gp', _, upd_same, rm⟩, fun x a e1 e2 => ?_⟩
    cases e2
    exact ⟨np', fun o ho => by rw [hp] at ho; cases ho⟩
end
theorem pm_dict {X : Cx} {Wx : WX} {pos : Pos} {keys : List (Option Expr)} {values : List Expr} {ks : List (Key × M W)} (h : PPs X pos keys values (trsOf X.K X.mg Wx ks)) (hall : keys.all (·.isSome) = true) (hl : keys.length = values.length) (h0 : keys ≠ []) (h15 : keys.length ≤ 15) (hk : ks.length ≤ 15) :
    PM X Wx (.Dict keys values pos) (dictM ks) := peImp (pe_disp h hall hl h0 h15) fun σ H Q h => dict_go hk h
section
variable {X : Cx} {Wx : WX} {io : List Nat} {elt tg iter : Expr} {ifs : List Expr} {scope : Scope} {own : List (Str × Nat)} {pos spos py : Pos} {mi : M (List D)} {g : D → M Unit} {t : M Bool} {el : M W} {y : Str} {i : Nat}
abbrev NoX : WX := fun _ _ _ _ => False
theorem pm_lc (hc : X.calm = true) (hN : X.N.Nodup) (hi : PMI X Wx tg iter mi) (ok : BlkOk X.N X.env.scope scope own)
    (hg : ∀ (s : Shared) (H : Hp) (C : Addr) (cl : List (Str × Addr)) (fp : List Addr), PMG (X.blk s H scope (compEnvC scope cl C X.env) fp) (outs X.N.length (own.map (·.2))) tg g)
    (ht : ∀ (s : Shared) (H : Hp) (C : Addr) (cl : List (Str × Addr)) (fp : List Addr), PTs (X.blk s H scope (compEnvC scope cl C X.env) fp) ifs (tB2 X.K X.mg NoX t))
    (he : ∀ (s : Shared) (H : Hp) (C : Addr) (cl : List (Str × Addr)) (fp : List Addr), PM (X.blk s H scope (compEnvC scope cl C X.env) fp) NoX elt el) (hs : ∀ x, foldedSetIterable iter X.env x = pure x) :
    PM X Wx (.ListComp elt [⟨tg, iter, ifs, 0⟩] scope pos) (lcM mi g t el (own.map (·.2))) :=
  ⟨fun pins s σ H Q I h => by
    have k := lc_go h
    rw [I.len] at k
    exact (pe_lc hc hN hi ok hg ht he hs).run pins s σ H Q I k⟩
theorem pms_setLc (hc : X.calm = true) (hN : X.N.Nodup) (hy : X.N[i]? = some y) (hyl : X.env.scope.names.lookup y = some .local)
    (hsw : swapsWith (.ListComp elt [⟨tg, iter, ifs, 0⟩] scope pos) (some (.Name y py)) spos.line X.env = pure true) (hi : PMI X Wx tg iter mi) (ok : BlkOk X.N X.env.scope scope own)
    (hg : ∀ (s : Shared) (H : Hp) (C : Addr) (cl : List (Str × Addr)) (fp : List Addr), PMG (X.blk s H scope (compEnvC scope cl C X.env) fp) (outs X.N.length (own.map (·.2))) tg g)
    (ht : ∀ (s : Shared) (H : Hp) (C : Addr) (cl : List (Str × Addr)) (fp : List Addr), PTs (X.blk s H scope (compEnvC scope cl C X.env) fp) ifs (tB2 X.K X.mg NoX t))
    (he : ∀ (s : Shared) (H : Hp) (C : Addr) (cl : List (Str × Addr)) (fp : List Addr), PM (X.blk s H scope (compEnvC scope cl C X.env) fp) NoX elt el) (hs : ∀ x, foldedSetIterable iter X.env x = pure x) :
    PMS X Wx io (.Assign [.Name y py] (.ListComp elt [⟨tg, iter, ifs, 0⟩] scope pos) spos) (setM io i (lcM mi g t el (own.map (·.2)))) :=
  ⟨fun pins s σ H D I h => by
    refine (ps_setLc (g := tG X.K X.mg (outs X.N.length (own.map (·.2))) g) (tt := tB2 X.K X.mg NoX t) (te := tM X.K X.mg NoX el) hc hN hy hyl hsw hi ok hg ht he hs).run pins s σ H D I ?_
    obtain ⟨ρ, G, R, h⟩ := h
    have k := lc_go (tM_mono (tM_bindS (io := io) R h) fun v H1 ⟨w, ρ1, G1, R1, F1, r, k⟩ => show gName i v σ H1 D.nx from by
      split at k
      · exact k.elim
      · rename_i hn
        obtain ⟨R2, F2⟩ := R1.store F1 r.1 (fun x a e1 e2 => r.2 x a e1 e2) (not_io hn)
        exact k _ H1 G1 R2 F2)
    rw [I.len] at k
    exact k⟩
end
end FL
set_option Elab.async false
set_option linter.all false
set_option maxRecDepth 100000
set_option maxHeartbeats 2000000
namespace FL
open PySem PySem.Spec L2
open PyProof.Rows hiding St
/-- what is known of a global name -/
inductive GE where
  | fn (F : FnSem) (sig : List Bool) | con (d : D) | bB (id : String) | bT (T : String) | gF (id : String)
/-- what is known of a context: its names, its scope, the slots that are never stored, the globals; all: every name's cell was made here -/
structure Sc where
  N : List Str
  sc : Scope
  io : List Nat
  all : Bool
  gl : List (Str × GE)
  lim : Nat
def GOk (P : Program) (w : World) (K : PySem.W.Frag) (mg : Str → Option Value) (base : Heap) (k : Nat) (x : Str) : GE → Prop
  | .fn F sig => ∃ f fd ps, mg x = some (.ref f) ∧ PySem.W.keepIn K (.ref f) = true ∧ FnG P w K mg base k f fd ps F ∧ Binds K fd ps []
  | .con d => ∃ u v, mg x = some u ∧ RelV v u ∧ RV K mg (fun _ => none) d v
  | .bB id => mg x = none ∧ bootBuiltins x = some (.builtin id)
  | .bT T => mg x = none ∧ bootBuiltins x = some (.type T)
  | .gF id => mg x = some (.builtin id)
structure OkC (c : Sc) (k : Nat) (X : Cx) : Prop where
  N : X.N = c.N
  nd : c.N.Nodup
  sc : X.env.scope = c.sc
  calm : X.calm = true
  hu : X.A.units + 200 < cLine
  gd : X.A.guards = some []
  room : Room k X.A
  gl : ∀ x e, c.gl.lookup x = some e → GOk X.prog X.w X.K X.mg X.base k x e
  fn : c.all = true → ∀ x, X.fn x = true
def isStar : Expr → Bool
  | .Starred .. => true
  | _ => false
def noStars : List Expr → Bool
  | [] => true
  | e :: es => !isStar e && noStars es
def isComp : Expr → Bool
  | .ListComp .. => true
  | .SetComp .. => true
  | .DictComp .. => true
  | _ => false
def isSet : Expr → Bool
  | .Set .. => true
  | _ => false
def plainT : Expr → Bool
  | .UnaryOp .Not _ _ => false
  | .BoolOp .. => false
  | .IfExp .. => false
  | .Compare .. => false
  | _ => true
def okName (x : Str) : Bool := !(x == ("__debug__" : Str)) && !(x == ("__classdict__" : Str)) && !(x == ("__name__" : Str))
def slotIx (N : List Str) (x : Str) : Option Nat := (List.range N.length).find? fun i => N[i]? == some x
def visB (c : Sc) (x : Str) : Bool := c.sc.names.lookup x == some .local || c.sc.names.lookup x == some .cell || c.sc.names.lookup x == some .free
def locB (c : Sc) (x : Str) : Bool := c.sc.names.lookup x == some .local || (c.all && c.sc.names.lookup x == some .cell)
def glB (c : Sc) (x : Str) : Bool := c.sc.names.lookup x == some .globalImplicit
theorem star_cons {e : Expr} {es : List Expr} {env : Env} (h : isStar e = false) : starEach (e :: es) env = (false, eval e env) :: starEach es env := by
  cases e <;> first
    | rfl
    | cases h
theorem plain_any {pos : Pos} {env : Env} : ∀ {es : List Expr}, noStars es = true → (backTo pos (starEach es env)).any (·.1) = false
  | [], _ => rfl
  | e :: es, h => by
    have h' : (!isStar e && noStars es) = true := h
    rw [Bool.and_eq_true] at h'
    rw [star_cons (by simpa using h'.1)]
    show (false || (backTo pos (starEach es env)).any (·.1)) = false
    rw [Bool.false_or]
    exact plain_any h'.2
theorem plainT_ok {e : Expr} {env : Env} (h : plainT e = true) (whole : Sem Value) : isTrue e env whole = (do let v ← whole; standAt e.pos; holding [v] (truthy v)) := by
  cases e <;> first
    | rfl
    | cases h
    | (rename_i op _ _; cases op <;> first | rfl | cases h)
theorem set_ok {e : Expr} {env : Env} (h : isSet e = false) (x : Value) : foldedSetIterable e env x = pure x := by
  cases e <;> first
    | rfl
    | cases h
theorem plainIx_ok {e : Expr} (h : noSlice e = true) : PlainIx e := fun o i => by
  cases e <;> first
    | rfl
    | cases h
theorem slotIx_ok {N : List Str} {x : Str} {i : Nat} (h : slotIx N x = some i) : N[i]? = some x := by
  have := List.find?_some h
  exact eq_of_beq this
section
variable {c : Sc} {X : Cx} {k : Nat} {x : Str}
theorem visB_ok (O : OkC c k X) (h : visB c x = true) : Vis X.env.scope x := by
  unfold visB at h
  rw [Bool.or_eq_true, Bool.or_eq_true] at h
  unfold Vis
  rw [O.sc]
  rcases h with (h | h) | h
  · exact .inl (eq_of_beq h)
  · exact .inr (.inl (eq_of_beq h))
  · exact .inr (.inr (eq_of_beq h))
theorem locB_ok (O : OkC c k X) (h : locB c x = true) : Loc X.env.scope x ∧ (X.fn x = true ∨ X.env.scope.names.lookup x = some .local) := by
  unfold locB at h
  rw [Bool.or_eq_true, Bool.and_eq_true] at h
  unfold L2.Loc
  rw [O.sc]
  rcases h with h | ⟨h1, h2⟩
  · exact ⟨.inl (eq_of_beq h), .inr (eq_of_beq h)⟩
  · exact ⟨.inr (eq_of_beq h2), .inl (O.fn h1 x)⟩
theorem glB_ok (O : OkC c k X) (h : glB c x = true) : Gl X x := by
  show X.env.scope.names.lookup x = _
  rw [O.sc]
  exact eq_of_beq h
theorem okName_ok (h : okName x = true) : (x == ("__debug__" : Str)) = false ∧ (x == ("__classdict__" : Str)) = false ∧ x ≠ "__name__" := by
  unfold okName at h
  rw [Bool.and_eq_true, Bool.and_eq_true] at h
  obtain ⟨⟨h1, h2⟩, h3⟩ := h
  exact ⟨by simpa using h1, by simpa using h2, by simpa using h3⟩
end
def badM {α : Type} : M α := fun _ => .bad
section
variable {X : Cx} {Wx : WX} {e : Expr}
theorem pm_bad : PM X Wx e badM := ⟨fun pins s σ H Q I h => let ⟨_, _, _, z⟩ := h; False.elim z⟩
theorem pma_bad : PMA X Wx e badM := ⟨fun pins s σ H Q I h => let ⟨_, _, _, z⟩ := h; False.elim z⟩
theorem pmb_bad : PMB X Wx e badM := ⟨fun pins s σ H Q I h => let ⟨_, _, _, z⟩ := h; False.elim z⟩
theorem pml_bad {es : List Expr} : PML X Wx es badM := ⟨fun pos pins s σ H Q I h => let ⟨_, _, _, z⟩ := h; False.elim z⟩
theorem pmas_bad {es : List Expr} : PMAs X Wx es badM := ⟨fun pos pins s σ H Q I h => let ⟨_, _, _, z⟩ := h; False.elim z⟩
theorem pmi_bad {tg : Expr} : PMI X Wx tg e badM := ⟨fun pins s σ H Rk I h => let ⟨_, _, _, z⟩ := h; False.elim z⟩
theorem pwb_bad : PWB X Wx e badM := ⟨fun wh pins s σ H Q I h => let ⟨_, _, _, z⟩ := h; False.elim z⟩
end
structure Cm where
  E : Sc → Expr → M W
  A : Sc → Expr → M A
  B : Sc → Expr → M Bool
def asL (f : Expr → M A) : List Expr → M (List A)
  | [] => nilA
  | e :: es => if isStar e = true then badM else consA (f e) (asL f es)
def dsL (f : Expr → M W) : List Expr → M (List D)
  | [] => nilL
  | e :: es => if isStar e = true then badM else consL (f e) (dsL f es)
def sigL (f : Expr → M W) (g : Expr → M A) : List Bool → List Expr → M (List A)
  | b :: bs, e :: es => if isStar e = true then badM else consA (if b = true then g e else datA (f e)) (sigL f g bs es)
  | [], [] => nilA
  | _, _ => badM
def phiB (id : String) : Option (List D → Option W) :=
  if id = "len" then some lenW else if id = "abs" then some absW else if id = "max" then some max2W else if id = "min" then some min2W else if id = "all" then some allW else
  if id = "any" then some anyW else if id = "repr" then some reprW else if id = "isinstance" then some isiW else if id = "math.gcd" then some gcdW else none
def phiT (id : String) : Option (List D → Option W) :=
  if id = "int" then some intW else if id = "list" then some listW else if id = "tuple" then some tupleW else none
theorem phiB_ok {X : Cx} {id : String} {φ : List D → Option W} (hc : X.calm = true) (hg : X.A.guards = some []) (hu : X.A.units + 200 < cLine) (h : phiB id = some φ) : CallR X (.builtin id) (rPn X.K X.mg φ) := by
  unfold phiB at h
  repeat (first
    | (split at h; (rename_i e; subst e; cases h; first | exact call_lenP | exact call_absP | exact call_maxP hc | exact call_minP hc | exact call_allP hc | exact call_anyP hc | exact call_reprP hg hu | exact call_isiP | exact call_gcdP))
    | cases h)
theorem phiT_ok {X : Cx} {id : String} {φ : List D → Option W} (h : phiT id = some φ) : CallR X (.type id) (rPn X.K X.mg φ) := by
  unfold phiT at h
  repeat (first
    | (split at h; (rename_i e; subst e; cases h; first | exact call_intP | exact call_listP | exact call_tupleP))
    | cases h)
end FL
set_option Elab.async false
set_option linter.all false
set_option maxRecDepth 100000
set_option maxHeartbeats 2000000
namespace FL
open PySem PySem.Spec L2
open PyProof.Rows hiding St
section
variable (cm : Cm) (c : Sc)
def nameE (x : Str) : M W := if okName x = true then
    (if visB c x = true then match slotIx c.N x with
      | some i => slotM i
      | none => badM
    else if glB c x = true then match c.gl.lookup x with
      | some (.con d) => constM d
      | some (.bT T) => constM (.ty T)
      | _ => badM
    else badM) else badM
def nameA (x : Str) : M A := if okName x = true then
    (if visB c x = true then match slotIx c.N x with
      | some i => slotA i
      | none => badM
    else datA (nameE c x)) else badM
def callE (x : Str) (es : List Expr) : M W := if (okName x && glB c x && noStars es) = true then
    match c.gl.lookup x with
    | some (.fn F sig) => callM F (sigL (cm.E c) (cm.A c) sig es)
    | some (.bB id) => match es, phiB id with
      | _ :: _, some φ => bcM φ (asL (cm.A c) es)
      | _, _ => badM
    | some (.bT T) => match es, phiT T with
      | _ :: _, some φ => bcM φ (asL (cm.A c) es)
      | _, _ => badM
    | some (.gF id) => match es, phiB id with
      | _ :: _, some φ => bcM φ (asL (cm.A c) es)
      | _, _ => badM
    | _ => badM
  else badM
def orE : List Expr → M W
  | [] => badM
  | [a] => cm.E c a
  | a :: b :: rest => orM (cm.E c a) (orE (b :: rest))
def andE : List Expr → M W
  | [] => badM
  | [a] => cm.E c a
  | a :: b :: rest => andM (cm.E c a) (andE (b :: rest))
def orT : List Expr → M Bool
  | [] => badM
  | [a] => cm.B c a
  | a :: b :: rest => orB (cm.B c a) (orT (b :: rest))
def andT : List Expr → M Bool
  | [] => badM
  | [a] => cm.B c a
  | a :: b :: rest => andB (cm.B c a) (andT (b :: rest))
def cmpE (a : Expr) (ops : List CmpOp) (bs : List Expr) : M W := match ops, bs with
  | [op], [b] => if behindInMarks op b = true then badM else cmpM op (cm.A c a) (cm.A c b)
  | [op, op'], [b, d] => if behindInMarks op' d = true then badM else chainM op op' (cm.A c a) (cm.A c b) (cm.A c d)
  | _, _ => badM
def cmpT (a : Expr) (ops : List CmpOp) (bs : List Expr) : M Bool := match ops, bs with
  | [op], [b] => if behindInMarks op b = true then badM else boolM (cmpM op (cm.A c a) (cm.A c b))
  | [op, op'], [b, d] => if behindInMarks op' d = true then badM else boolM (chainM op op' (cm.A c a) (cm.A c b) (cm.A c d))
  | _, _ => badM
def partO (e : Option Expr) : M (Option Int) := match e with
  | none => noPart
  | some e => partM (cm.E c e)
def subE (a i : Expr) : M W := match i with
  | .Slice lo hi none _ => slM (cm.A c a) (partO cm c lo) (partO cm c hi)
  | .Slice lo hi (some st) _ => slSM (cm.A c a) (partO cm c lo) (partO cm c hi) (partM (cm.E c st))
  | i => if noSlice i = true then ixM (cm.A c a) (cm.A c i) else badM
def methE (o : Expr) (name : Str) (es : List Expr) : M W := match o, es with
  | .Name x _, [e] => if (okName x && visB c x && name == ("append" : Str) && !isStar e) = true then
      match slotIx c.N x with
      | some i => appM i (cm.E c e)
      | none => badM
    else badM
  | .Name x _, [] => if (okName x && visB c x && name == ("pop" : Str)) = true then
      match slotIx c.N x with
      | some i => popM i
      | none => badM
    else badM
  | .Call _ (_ :: _) _ _, [] => if name == ("bit_length" : Str) then bitsM (cm.A c o) else badM
  | _, _ => badM
def keyOf : Expr → Option Key
  | .Constant (.str x) _ _ => some (.inr x)
  | .Constant (.int i) _ _ => some (.inl i)
  | _ => none
def dictKs : List (Option Expr) → List Expr → Option (List (Key × M W))
  | [], [] => some []
  | some k :: ks, v :: vs => match keyOf k, dictKs ks vs with
    | some y, some r => some ((y, cm.E c v) :: r)
    | _, _ => none
  | _, _ => none
def dictE (keys : List (Option Expr)) (values : List Expr) : M W := match keys with
  | [] => if values.isEmpty = true then dct0M else badM
  | k :: ks => match dictKs cm c (k :: ks) values with
    | some r => if decide (r.length ≤ 15) = true then dictM r else badM
    | none => badM
/-- targets: names, tuples of names -/
def nameT (x : Str) : D → M Unit := match slotIx c.N x with
  | some i => if locB c x = true then nameG c.io i else fun _ => badM
  | none => fun _ => badM
def tgt1 (e : Expr) : D → M Unit := match e with
  | .Name x _ => nameT c x
  | _ => fun _ => badM
def tgts (f : Expr → D → M Unit) : List Expr → List D → M Unit
  | [] => nilG
  | e :: es => consG (f e) (tgts f es)
def tgt2 (e : Expr) : D → M Unit := match e with
  | .Tuple es _ _ => if noStars es = true then tupG es.length (tgts (tgt1 c) es) else fun _ => badM
  | e => tgt1 c e
def tgt (e : Expr) : D → M Unit := match e with
  | .Tuple es _ _ => if noStars es = true then tupG es.length (tgts (tgt2 c) es) else fun _ => badM
  | e => tgt1 c e
def isTupE : Expr → Bool
  | .Tuple .. => true
  | _ => false
def iterI (tg it : Expr) : M (List D) := match it with
  | .Call (.Name x _) [a] [] _ =>
    if (x == ("range" : Str) && glB c x && !isStar a) = true then match c.gl.lookup x with
      | some (.bT _) => iterL range1D (dsL (cm.E c) [a])
      | _ => badM
    else if (x == ("enumerate" : Str) && glB c x && !isStar a && isTupE tg) = true then match c.gl.lookup x with
      | some (.bT _) => iterL enumD (dsL (cm.E c) [a])
      | _ => badM
    else iterM (cm.E c it)
  | .Call (.Name x _) [a, b] [] _ =>
    if (x == ("range" : Str) && glB c x && !isStar a && !isStar b) = true then match c.gl.lookup x with
      | some (.bT _) => iterL range2D (dsL (cm.E c) [a, b])
      | _ => badM
    else if (x == ("zip" : Str) && glB c x && !isStar a && !isStar b && isTupE tg) = true then match c.gl.lookup x with
      | some (.bT _) => iterL zipD (dsL (cm.E c) [a, b])
      | _ => badM
    else iterM (cm.E c it)
  | it => iterM (cm.E c it)
def ownOf (N : List Str) : List (Str × NameKind) → List (Str × Nat)
  | [] => []
  | (x, k) :: r => if (k == .local || k == .cell) = true then match slotIx N x with
      | some i => (x, i) :: ownOf N r
      | none => ownOf N r
    else ownOf N r
def blkB (N : List Str) (sc scope : Scope) : Bool :=
  decide (scope.kind = .function) && scope.names.all (fun y => scope.names.lookup y.1 == some y.2) && scope.names.all (fun y => !(y.2 == .free) || sc.names.lookup y.1 == some .cell || sc.names.lookup y.1 == some .free) &&
    scope.names.all (fun y => !(y.2 == .local || y.2 == .cell) || (ownOf N scope.names).any (fun p => p.1 == y.1) || !(N.contains y.1))
def inner (scope : Scope) : Sc := { c with sc := relS scope c.sc, io := outs c.N.length ((ownOf c.N scope.names).map (·.2)), all := false }
def ifsT (ifs : List Expr) (d : Sc) : M Bool := match ifs with
  | [] => yesM
  | [t] => cm.B d t
  | _ => badM
def compE (elt : Expr) (gs : List Comprehension) (scope : Scope) : M W := match gs with
  | [⟨tg, it, ifs, 0⟩] => if (blkB c.N c.sc scope && !isSet it) = true then
      lcM (iterI cm c tg it) (tgt (inner c scope) tg) (ifsT cm ifs (inner c scope)) (cm.E (inner c scope) elt) ((ownOf c.N scope.names).map (·.2))
    else badM
  | _ => badM
def stepE (e : Expr) : M W := match e with
  | .Constant (.int i) _ _ => constM (.int i)
  | .Constant (.bool b) _ _ => constM (.bl b)
  | .Constant .none _ _ => constM .non
  | .Constant (.str x) _ _ => constM (.str x)
  | .Name x _ => nameE c x
  | .BinOp a op b _ => binM op (cm.A c a) (cm.A c b)
  | .UnaryOp .USub a _ => negM (cm.A c a)
  | .UnaryOp .Not a _ => notM (cm.A c a)
  | .BoolOp .Or es _ => orE cm c es
  | .BoolOp .And es _ => andE cm c es
  | .Compare a ops bs _ => cmpE cm c a ops bs
  | .IfExp t a b _ => ifM (cm.B c t) (cm.E c a) (cm.E c b)
  | .Tuple es _ _ => tupM (dsL (cm.E c) es)
  | .List es _ => lstM (dsL (cm.E c) es)
  | .Dict ks vs _ => dictE cm c ks vs
  | .Subscript a i _ => subE cm c a i
  | .Call (.Name x _) es [] _ => callE cm c x es
  | .Call (.Attribute o name apos) es [] pos => if (apos.endLine == pos.line) = true then methE cm c o name es else badM
  | .ListComp elt gs scope _ => compE cm c elt gs scope
  | _ => badM
def stepA (e : Expr) : M A := match e with
  | .Name x _ => nameA c x
  | e => datA (stepE cm c e)
def stepB (e : Expr) : M Bool := match e with
  | .BoolOp .Or es _ => orT cm c es
  | .BoolOp .And es _ => andT cm c es
  | .UnaryOp .Not a _ => notB (cm.B c a)
  | .Compare a ops bs _ => cmpT cm c a ops bs
  | e => if plainT e = true then testM (stepA cm c e) else badM
end
def Cm.zero : Cm := ⟨fun _ _ => badM, fun _ _ => badM, fun _ _ => badM⟩
def Cm.next (cm : Cm) : Cm := ⟨stepE cm, stepA cm, stepB cm⟩
def cmN : Nat → Cm
  | 0 => Cm.zero
  | n + 1 => (cmN n).next
end FL
set_option Elab.async false
set_option linter.all false
set_option maxRecDepth 100000
set_option maxHeartbeats 2000000
namespace FL
open PySem PySem.Spec L2
open PyProof.Rows hiding St
structure CmOk (cm : Cm) : Prop where
  E : ∀ (c : Sc) (k : Nat) (X : Cx) (Wx : WX), OkC c k X → Takes X Wx → ∀ e, PM X Wx e (cm.E c e)
  A : ∀ (c : Sc) (k : Nat) (X : Cx) (Wx : WX), OkC c k X → Takes X Wx → ∀ e, PMA X Wx e (cm.A c e)
  B : ∀ (c : Sc) (k : Nat) (X : Cx) (Wx : WX), OkC c k X → Takes X Wx → ∀ e, PMB X Wx e (cm.B c e)
theorem CmOk.zero : CmOk Cm.zero := ⟨fun _ _ _ _ _ _ _ => pm_bad, fun _ _ _ _ _ _ _ => pma_bad, fun _ _ _ _ _ _ _ => pmb_bad⟩
section
variable {c : Sc} {k : Nat} {X : Cx} {Wx : WX}
theorem nameE_ok (O : OkC c k X) {x : Str} {pos : Pos} : PM X Wx (.Name x pos) (nameE c x) := by
  unfold nameE
  split
  · rename_i hn
    obtain ⟨h1, h2, h3⟩ := okName_ok hn
    split
    · rename_i hv
      split
      · rename_i i hi
        exact pm_slot (by rw [O.N]; exact slotIx_ok hi) (visB_ok O hv) h1 h2
      · exact pm_bad
    · split
      · rename_i hg
        split
        · rename_i d hl
          obtain ⟨u, v, e1, e2, e3⟩ := O.gl x _ hl
          exact pm_glob (glB_ok O hg) e1 e2 e3 h1
        · rename_i T hl
          obtain ⟨e1, e2⟩ := O.gl x _ hl
          exact pm_bltn (glB_ok O hg) e1 e2 h3 h1
        · exact pm_bad
      · exact pm_bad
  · exact pm_bad
theorem nameA_ok (O : OkC c k X) {x : Str} {pos : Pos} : PMA X Wx (.Name x pos) (nameA c x) := by
  unfold nameA
  split
  · rename_i hn
    obtain ⟨h1, h2, h3⟩ := okName_ok hn
    split
    · rename_i hv
      split
      · rename_i i hi
        exact pma_slot (by rw [O.N]; exact slotIx_ok hi) (visB_ok O hv) h1 h2
      · exact pma_bad
    · exact pma_of (nameE_ok O)
  · exact pma_bad
theorem asL_ok {f : Expr → M A} (h : ∀ e, PMA X Wx e (f e)) : ∀ es, PMAs X Wx es (asL f es)
  | [] => pmas_nil
  | e :: es => by
    unfold asL
    split
    · exact pmas_bad
    · rename_i hs
      exact pmas_cons (h e) (asL_ok h es) (star_cons (by simpa using hs))
theorem dsL_ok {f : Expr → M W} (h : ∀ e, PM X Wx e (f e)) : ∀ es, PML X Wx es (dsL f es)
  | [] => pml_nil
  | e :: es => by
    unfold dsL
    split
    · exact pml_bad
    · rename_i hs
      exact pml_cons (h e) (dsL_ok h es) (star_cons (by simpa using hs))
theorem sigL_ok {f : Expr → M W} {g : Expr → M A} (hf : ∀ e, PM X Wx e (f e)) (hg : ∀ e, PMA X Wx e (g e)) : ∀ bs es, PMAs X Wx es (sigL f g bs es)
  | [], [] => pmas_nil
  | [], _ :: _ => pmas_bad
  | _ :: _, [] => pmas_bad
  | b :: bs, e :: es => by
    unfold sigL
    split
    · exact pmas_bad
    · rename_i hs
      refine pmas_cons ?_ (sigL_ok hf hg bs es) (star_cons (by simpa using hs))
      split
      · exact hg e
      · exact pma_of (hf e)
variable {cm : Cm}
theorem callE_ok (C : CmOk cm) (O : OkC c k X) (tk : Takes X Wx) {x : Str} {p pos : Pos} {es : List Expr} : PM X Wx (.Call (.Name x p) es [] pos) (callE cm c x es) := by
  unfold callE
  split
  · rename_i h
    rw [Bool.and_eq_true, Bool.and_eq_true] at h
    obtain ⟨⟨hn, hg⟩, hs⟩ := h
    obtain ⟨h1, h2, h3⟩ := okName_ok hn
    have g := glB_ok O hg
    have one : ∀ {e : Expr} {r : List Expr}, es = e :: r → starEach (e :: r) X.env = (false, eval e X.env) :: starEach r X.env ∧ (backTo pos (starEach r X.env)).any (·.1) = false := fun {e r} ee => by
      rw [ee] at hs
      have hs' : (!isStar e && noStars r) = true := hs
      rw [Bool.and_eq_true] at hs'
      exact ⟨star_cons (by simpa using hs'.1), plain_any hs'.2⟩
    split
    · rename_i F sig hl
      obtain ⟨f, fd, ps, e1, e2, e3, e4⟩ := O.gl x _ hl
      cases es with
      | nil =>
        cases sig with
        | nil => exact pm_call0 e3 O.room O.gd g e1 e2 e4 tk h1
        | cons b bs =>
          have : PM X Wx (.Call (.Name x p) [] [] pos) (callM F badM) := ⟨fun pins s σ H Q I h => let ⟨_, _, _, z⟩ := h; False.elim z⟩
          exact this
      | cons e r =>
        obtain ⟨a1, a2⟩ := one rfl
        exact pm_call e3 O.room O.gd g e1 e2 e4 tk (sigL_ok (C.E c k X Wx O tk) (C.A c k X Wx O tk) sig (e :: r)) h1 a1 a2
    · rename_i id hl
      obtain ⟨e1, e2⟩ := O.gl x _ hl
      split
      · rename_i e r φ hp
        obtain ⟨a1, a2⟩ := one rfl
        exact pm_bcB (phiB_ok O.calm O.gd O.hu hp) g e1 e2 (asL_ok (C.A c k X Wx O tk) _) h3 h1 a1 a2
      · exact pm_bad
    · rename_i id hl
      obtain ⟨e1, e2⟩ := O.gl x _ hl
      split
      · rename_i e r φ hp
        obtain ⟨a1, a2⟩ := one rfl
        exact pm_bcT (phiT_ok hp) g e1 e2 (asL_ok (C.A c k X Wx O tk) _) h3 h1 a1 a2
      · exact pm_bad
    · rename_i id hl
      have e1 := O.gl x _ hl
      split
      · rename_i e r φ hp
        obtain ⟨a1, a2⟩ := one rfl
        exact pm_bcF (phiB_ok O.calm O.gd O.hu hp) g e1 (asL_ok (C.A c k X Wx O tk) _) h1 a1 a2
      · exact pm_bad
    · exact pm_bad
  · exact pm_bad
theorem orE_ok (C : CmOk cm) (O : OkC c k X) (tk : Takes X Wx) {pos : Pos} : ∀ es, PM X Wx (.BoolOp .Or es pos) (orE cm c es)
  | [] => pm_bad
  | [a] => pm_one (C.E c k X Wx O tk a)
  | a :: b :: rest => pm_or (C.E c k X Wx O tk a) (orE_ok C O tk (b :: rest))
theorem andE_ok (C : CmOk cm) (O : OkC c k X) (tk : Takes X Wx) {pos : Pos} : ∀ es, PM X Wx (.BoolOp .And es pos) (andE cm c es)
  | [] => pm_bad
  | [a] => pm_one (C.E c k X Wx O tk a)
  | a :: b :: rest => pm_and (C.E c k X Wx O tk a) (andE_ok C O tk (b :: rest))
theorem orT_ok (C : CmOk cm) (O : OkC c k X) (tk : Takes X Wx) {pos : Pos} : ∀ es, PWB X Wx (.BoolOp .Or es pos) (orT cm c es)
  | [] => pwb_bad
  | [a] => pwb_or1 (C.B c k X Wx O tk a)
  | a :: b :: rest => pwb_or (C.B c k X Wx O tk a) (orT_ok C O tk (b :: rest))
theorem andT_ok (C : CmOk cm) (O : OkC c k X) (tk : Takes X Wx) {pos : Pos} : ∀ es, PWB X Wx (.BoolOp .And es pos) (andT cm c es)
  | [] => pwb_bad
  | [a] => pwb_and1 (C.B c k X Wx O tk a)
  | a :: b :: rest => pwb_and (C.B c k X Wx O tk a) (andT_ok C O tk (b :: rest))
theorem cmpE_ok (C : CmOk cm) (O : OkC c k X) (tk : Takes X Wx) {pos : Pos} {a : Expr} {ops : List CmpOp} {bs : List Expr} : PM X Wx (.Compare a ops bs pos) (cmpE cm c a ops bs) := by
  have hu : X.A.units + 65 < cLine := by have := O.hu; omega
  unfold cmpE
  split
  · split
    · exact pm_bad
    · rename_i h
      exact pm_cmp hu (C.A c k X Wx O tk _) (C.A c k X Wx O tk _) (by simpa using h)
  · split
    · exact pm_bad
    · rename_i h
      exact pm_chain hu (C.A c k X Wx O tk _) (C.A c k X Wx O tk _) (C.A c k X Wx O tk _) (by simpa [lastMarks] using h)
  · exact pm_bad
theorem cmpT_ok (C : CmOk cm) (O : OkC c k X) (tk : Takes X Wx) {pos : Pos} {a : Expr} {ops : List CmpOp} {bs : List Expr} : PMB X Wx (.Compare a ops bs pos) (cmpT cm c a ops bs) := by
  have hu : X.A.units + 65 < cLine := by have := O.hu; omega
  unfold cmpT
  split
  · split
    · exact pmb_bad
    · rename_i h
      exact pmb_cmp hu (C.A c k X Wx O tk _) (C.A c k X Wx O tk _) (by simpa using h)
  · split
    · exact pmb_bad
    · rename_i h
      exact pmb_chain hu (C.A c k X Wx O tk _) (C.A c k X Wx O tk _) (C.A c k X Wx O tk _) (by simpa [lastMarks] using h)
  · exact pmb_bad
theorem partO_ok (C : CmOk cm) (O : OkC c k X) (tk : Takes X Wx) : ∀ e, PMO X Wx e (partO cm c e)
  | none => pmo_none
  | some e => pmo_some (C.E c k X Wx O tk e)
theorem subE_ok (C : CmOk cm) (O : OkC c k X) (tk : Takes X Wx) {pos : Pos} {a i : Expr} : PM X Wx (.Subscript a i pos) (subE cm c a i) := by
  have hu : X.A.units + 1 < cLine := by have := O.hu; omega
  unfold subE
  split
  · exact pm_sl (C.A c k X Wx O tk _) (partO_ok C O tk _) (partO_ok C O tk _)
  · exact pm_slS (C.A c k X Wx O tk _) (partO_ok C O tk _) (partO_ok C O tk _) (pmo_some (C.E c k X Wx O tk _))
  · split
    · rename_i h
      exact pm_ix hu (C.A c k X Wx O tk _) (C.A c k X Wx O tk _) (plainIx_ok h)
    · exact pm_bad
theorem methE_ok (C : CmOk cm) (O : OkC c k X) (tk : Takes X Wx) {apos pos : Pos} {o : Expr} {name : Str} {es : List Expr} (hl : (apos.endLine == pos.line) = true) : PM X Wx (.Call (.Attribute o name apos) es [] pos) (methE cm c o name es) := by
  unfold methE
  split
  · rename_i x p e
    split
    · rename_i h
      rw [Bool.and_eq_true, Bool.and_eq_true, Bool.and_eq_true] at h
      obtain ⟨⟨⟨hn, hv⟩, hm⟩, hs⟩ := h
      obtain ⟨h1, h2, h3⟩ := okName_ok hn
      have em := eq_of_beq hm
      subst em
      split
      · rename_i i hi
        exact pm_append (by rw [O.N]; exact slotIx_ok hi) (visB_ok O hv) h1 h2 (C.E c k X Wx O tk e) (star_cons (by simpa using hs)) hl
      · exact pm_bad
    · exact pm_bad
  · rename_i x p
    split
    · rename_i h
      rw [Bool.and_eq_true, Bool.and_eq_true] at h
      obtain ⟨⟨hn, hv⟩, hm⟩ := h
      obtain ⟨h1, h2, h3⟩ := okName_ok hn
      have em := eq_of_beq hm
      subst em
      split
      · rename_i i hi
        exact pm_pop (by rw [O.N]; exact slotIx_ok hi) (visB_ok O hv) h1 h2 hl
      · exact pm_bad
    · exact pm_bad
  · rename_i f e r kw p
    split
    · rename_i h
      have em := eq_of_beq h
      subst em
      exact pm_bits (C.A c k X Wx O tk _) (by cases f <;> rfl) hl
    · exact pm_bad
  · exact pm_bad
theorem keyOf_ok {e : Expr} {y : Key} (h : keyOf e = some y) : PE X e (tC (kV y)) := by
  unfold keyOf at h
  split at h
  · cases h; exact pe_str
  · cases h; exact pe_int
  · cases h
theorem dictKs_ok (C : CmOk cm) (O : OkC c k X) (tk : Takes X Wx) {pos : Pos} : ∀ {ks : List (Option Expr)} {vs : List Expr} {r : List (Key × M W)}, dictKs cm c ks vs = some r → PPs X pos ks vs (trsOf X.K X.mg Wx r) ∧ ks.all (·.isSome) = true ∧ ks.length = vs.length ∧ ks.length = r.length
  | [], [], r, h => by
    have e : ([] : List (Key × M W)) = r := Option.some.inj h
    subst e
    exact ⟨pps_nil, rfl, rfl, rfl⟩
  | some e :: ks, v :: vs, r, h => by
    unfold dictKs at h
    split at h
    · rename_i y r' h1 h2
      have e := Option.some.inj h
      subst e
      obtain ⟨a1, a2, a3, a4⟩ := dictKs_ok C O tk (pos := pos) h2
      exact ⟨pps_cons (keyOf_ok h1) (C.E c k X Wx O tk v) a1, by rw [List.all_cons, a2]; rfl, by rw [List.length_cons, List.length_cons, a3], by rw [List.length_cons, List.length_cons, a4]⟩
    · cases h
  | none :: _, _, _, h => by cases h
  | some _ :: _, [], _, h => by cases h
  | [], _ :: _, _, h => by cases h
theorem dictE_ok (C : CmOk cm) (O : OkC c k X) (tk : Takes X Wx) {pos : Pos} {ks : List (Option Expr)} {vs : List Expr} : PM X Wx (.Dict ks vs pos) (dictE cm c ks vs) := by
  unfold dictE
  split
  · split
    · rename_i h
      cases vs with
      | nil => exact pm_dct0
      | cons _ _ => cases h
    · exact pm_bad
  · split
    · rename_i r hr
      split
      · rename_i h15
        obtain ⟨a1, a2, a3, a4⟩ := dictKs_ok C O tk (pos := pos) hr
        have l := of_decide_eq_true h15
        exact pm_dict a1 a2 a3 (by simp) (by rw [a4]; exact l) l
      · exact pm_bad
    · exact pm_bad
def nofail (g : D → M Unit) : Prop := ∀ d ρ a fs ρ', g d ρ ≠ .exc a fs ρ'
end
end FL
set_option Elab.async false
set_option linter.all false
set_option maxRecDepth 100000
set_option maxHeartbeats 2000000
namespace FL
open PySem PySem.Spec L2
open PyProof.Rows hiding St
section
variable {c : Sc} {k : Nat} {X : Cx} {Wx : WX}
theorem pmg_bad {X : Cx} {io : List Nat} {tg : Expr} : PMG X io tg (fun _ => badM) := ⟨fun pins s σ H v u Q I r h => let ⟨_, _, _, _, _, z⟩ := h; False.elim z⟩
theorem nameT_ok (O : OkC c k X) {x : Str} {p : Pos} : PMG X c.io (.Name x p) (nameT c x) := by
  unfold nameT
  split
  · rename_i i hi
    split
    · rename_i hl
      obtain ⟨h1, h2⟩ := locB_ok O hl
      exact pmg_name (by rw [O.N]; exact O.nd) (by rw [O.N]; exact slotIx_ok hi) h1 h2
    · exact pmg_bad
  · exact pmg_bad
theorem tgt1_ok (O : OkC c k X) (e : Expr) : PMG X c.io e (tgt1 c e) := by
  unfold tgt1
  split
  · exact nameT_ok O
  · exact pmg_bad
theorem asg_cons {e : Expr} {es : List Expr} {env : Env} (h : isStar e = false) : assignEach (e :: es) env = (false, assign e env) :: assignEach es env := by
  cases e <;> first
    | rfl
    | cases h
theorem asg_len {env : Env} : ∀ {es : List Expr}, noStars es = true → (assignEach es env).length = es.length ∧ (assignEach es env).findIdx? (·.1) = none
  | [], _ => ⟨rfl, rfl⟩
  | e :: es, h => by
    have h' : (!isStar e && noStars es) = true := h
    rw [Bool.and_eq_true] at h'
    obtain ⟨h1, h2⟩ := asg_len (env := env) h'.2
    rw [asg_cons (by simpa using h'.1)]
    refine ⟨by rw [List.length_cons, List.length_cons, h1], ?_⟩
    rw [List.findIdx?_cons]
    simp [h2]
theorem tgts_ok {f : Expr → D → M Unit} (h : ∀ e, PMG X c.io e (f e)) : ∀ {es : List Expr}, noStars es = true → PMGs X c.io es (tgts f es)
  | [], _ => pmgs_nil
  | e :: es, hs => by
    have h' : (!isStar e && noStars es) = true := hs
    rw [Bool.and_eq_true] at h'
    exact pmgs_cons (h e) (tgts_ok h h'.2) (by rw [asg_cons (by simpa using h'.1)]; rfl)
theorem tupT_ok (O : OkC c k X) {f : Expr → D → M Unit} (h : ∀ e, PMG X c.io e (f e)) {es : List Expr} {kk : Nat} {p : Pos} (hs : noStars es = true) : PMG X c.io (.Tuple es kk p) (tupG es.length (tgts f es)) := by
  obtain ⟨h1, h2⟩ := asg_len (env := X.env) hs
  exact pmg_tup O.calm (tgts_ok h hs) h1 h2
theorem tgt2_ok (O : OkC c k X) (e : Expr) : PMG X c.io e (tgt2 c e) := by
  unfold tgt2
  split
  · split
    · rename_i h
      exact tupT_ok O (tgt1_ok O) h
    · exact pmg_bad
  · exact tgt1_ok O e
theorem tgt_ok (O : OkC c k X) (e : Expr) : PMG X c.io e (tgt c e) := by
  unfold tgt
  split
  · split
    · rename_i h
      exact tupT_ok O (tgt2_ok O) h
    · exact pmg_bad
  · exact tgt1_ok O e
/-- a target raises nothing -/
theorem nameT_nf {x : Str} : ∀ d ρ a fs ρ', nameT c x d ρ ≠ .exc a fs ρ' := fun d ρ a fs ρ' h => by
  unfold nameT at h
  cases hs : slotIx c.N x with
  | none => rw [hs] at h; cases h
  | some i =>
    rw [hs] at h
    cases hl : locB c x with
    | false => rw [hl] at h; cases h
    | true =>
      rw [hl] at h
      have h' : (if c.io.contains i = true then Res.bad else Res.ok () (ρ.set i (some (W.d d)))) = Res.exc a fs ρ' := h
      split at h' <;> cases h'
theorem tgt1_nf (e : Expr) : ∀ d ρ a fs ρ', tgt1 c e d ρ ≠ .exc a fs ρ' := fun d ρ a fs ρ' h => by
  unfold tgt1 at h
  split at h
  · exact nameT_nf d ρ a fs ρ' h
  · cases h
theorem tgts_nf {f : Expr → D → M Unit} (hf : ∀ e d ρ a fs ρ', f e d ρ ≠ .exc a fs ρ') : ∀ (es : List Expr) (ds : List D) (ρ : Rho) (a : Str) (fs : List (Str × D)) (ρ' : Rho), tgts f es ds ρ ≠ .exc a fs ρ'
  | [], ds, ρ, a, fs, ρ', h => by
    unfold tgts nilG at h
    split at h <;> cases h
  | e :: es, ds, ρ, a, fs, ρ', h => by
    unfold tgts consG at h
    cases ds with
    | nil => cases h
    | cons d ds =>
      have h' : ((f e d ρ).bind fun _ ρ => tgts f es ds ρ) = .exc a fs ρ' := h
      cases ef : f e d ρ with
      | ok u ρ1 => rw [ef] at h'; exact tgts_nf hf es ds ρ1 a fs ρ' h'
      | exc b gs ρ1 => exact hf e d ρ b gs ρ1 ef
      | bad => rw [ef] at h'; cases h'
theorem tupG_nf {n : Nat} {g : List D → M Unit} (hg : ∀ ds ρ a fs ρ', g ds ρ ≠ .exc a fs ρ') : ∀ d ρ a fs ρ', tupG n g d ρ ≠ .exc a fs ρ' := fun d ρ a fs ρ' h => by
  unfold tupG at h
  split at h
  · split at h
    · exact hg _ _ _ _ _ h
    · cases h
  · cases h
theorem tgt2_nf (e : Expr) : ∀ d ρ a fs ρ', tgt2 c e d ρ ≠ .exc a fs ρ' := fun d ρ a fs ρ' h => by
  unfold tgt2 at h
  split at h
  · split at h
    · exact tupG_nf (tgts_nf tgt1_nf _) d ρ a fs ρ' h
    · cases h
  · exact tgt1_nf _ d ρ a fs ρ' h
theorem tgt_nf (e : Expr) : ∀ d ρ a fs ρ', tgt c e d ρ ≠ .exc a fs ρ' := fun d ρ a fs ρ' h => by
  unfold tgt at h
  split at h
  · split at h
    · exact tupG_nf (tgts_nf tgt2_nf _) d ρ a fs ρ' h
    · cases h
  · exact tgt1_nf _ d ρ a fs ρ' h
variable {cm : Cm}
theorem iterI_ok (C : CmOk cm) (O : OkC c k X) (tk : Takes X Wx) {tg it : Expr} : PMI X Wx tg it (iterI cm c tg it) := by
  have data : PMI X Wx tg it (iterM (cm.E c it)) := pmi_data (C.E c k X Wx O tk it)
  unfold iterI
  split
  · rename_i x p a pos
    split
    · rename_i h
      rw [Bool.and_eq_true, Bool.and_eq_true] at h
      obtain ⟨⟨hx, hg⟩, hs⟩ := h
      have ex := eq_of_beq hx
      subst ex
      split
      · rename_i T hl
        obtain ⟨e1, _⟩ := O.gl _ _ hl
        exact pmi_range1 (glB_ok O hg) e1 (dsL_ok (C.E c k X Wx O tk) [a]) (star_cons (by simpa using hs))
      · exact pmi_bad
    · split
      · rename_i h
        rw [Bool.and_eq_true, Bool.and_eq_true, Bool.and_eq_true] at h
        obtain ⟨⟨⟨hx, hg⟩, hs⟩, ht⟩ := h
        have ex := eq_of_beq hx
        subst ex
        split
        · rename_i T hl
          obtain ⟨e1, _⟩ := O.gl _ _ hl
          cases tg with
          | Tuple es kk tp => exact pmi_enum (glB_ok O hg) e1 (dsL_ok (C.E c k X Wx O tk) [a]) (star_cons (by simpa using hs))
          | _ => cases ht
        · exact pmi_bad
      · exact data
  · rename_i x p a b pos
    split
    · rename_i h
      rw [Bool.and_eq_true, Bool.and_eq_true, Bool.and_eq_true] at h
      obtain ⟨⟨⟨hx, hg⟩, hs⟩, hs2⟩ := h
      have ex := eq_of_beq hx
      subst ex
      split
      · rename_i T hl
        obtain ⟨e1, _⟩ := O.gl _ _ hl
        have sb : starEach [b] X.env = [(false, eval b X.env)] := star_cons (by simpa using hs2)
        exact pmi_range2 (glB_ok O hg) e1 (dsL_ok (C.E c k X Wx O tk) [a, b]) (by rw [star_cons (by simpa using hs), sb]) sb
      · exact pmi_bad
    · split
      · rename_i h
        rw [Bool.and_eq_true, Bool.and_eq_true, Bool.and_eq_true, Bool.and_eq_true] at h
        obtain ⟨⟨⟨⟨hx, hg⟩, hs⟩, hs2⟩, ht⟩ := h
        have ex := eq_of_beq hx
        subst ex
        split
        · rename_i T hl
          obtain ⟨e1, _⟩ := O.gl _ _ hl
          have sb : starEach [b] X.env = [(false, eval b X.env)] := star_cons (by simpa using hs2)
          cases tg with
          | Tuple es kk tp => exact pmi_zip (glB_ok O hg) e1 (dsL_ok (C.E c k X Wx O tk) [a, b]) (star_cons (by simpa using hs)) (by rw [sb]; rfl)
          | _ => cases ht
        · exact pmi_bad
      · exact data
  · exact data
theorem own_ix {N : List Str} : ∀ {ns : List (Str × NameKind)} (p : Str × Nat), p ∈ ownOf N ns → N[p.2]? = some p.1
  | [], p, h => by cases h
  | (x, kd) :: r, p, h => by
    unfold ownOf at h
    split at h
    · split at h
      · rename_i i hi
        rcases List.mem_cons.mp h with e | h
        · rw [e]; exact slotIx_ok hi
        · exact own_ix p h
      · exact own_ix p h
    · exact own_ix p h
theorem blk_ok {N : List Str} {sc scope : Scope} (h : blkB N sc scope = true) : BlkOk N sc scope (ownOf N scope.names) := by
  unfold blkB at h
  rw [Bool.and_eq_true, Bool.and_eq_true, Bool.and_eq_true] at h
  obtain ⟨⟨⟨h1, h2⟩, h3⟩, h4⟩ := h
  rw [List.all_eq_true] at h2 h3 h4
  refine ⟨of_decide_eq_true h1, fun y hy => eq_of_beq (h2 y hy), fun p hp => own_ix p hp, fun y hy e => ?_, fun y hy e => ?_⟩
  · have z := h3 y hy
    rw [e] at z
    rw [Bool.or_eq_true, Bool.or_eq_true] at z
    rcases z with (z | z) | z
    · cases z
    · exact .inl (eq_of_beq z)
    · exact .inr (eq_of_beq z)
  · have z := h4 y hy
    have lc : (y.2 == NameKind.local || y.2 == NameKind.cell) = true := by
      rcases e with e | e <;> rw [e] <;> rfl
    rw [lc, Bool.or_eq_true, Bool.or_eq_true] at z
    rcases z with (z | z) | z
    · cases z
    · obtain ⟨p, hp, e2⟩ := List.any_eq_true.mp z
      exact .inl (List.mem_map.mpr ⟨p, hp, eq_of_beq e2⟩)
    · exact .inr fun hm => by
        have z2 : N.contains y.1 = false := by simpa using z
        have z3 : N.contains y.1 = true := by simpa using hm
        rw [z2] at z3
        cases z3
theorem inner_ok (O : OkC c k X) {scope : Scope} (s : Shared) (H : Hp) (C : Addr) (cl : List (Str × Addr)) (fp : List Addr) : OkC (inner c scope) k (X.blk s H scope (compEnvC scope cl C X.env) fp) :=
  ⟨O.N, O.nd, by show relS scope X.env.scope = relS scope c.sc; rw [O.sc], O.calm, O.hu, O.gd, O.room, O.gl, fun h => by cases h⟩
theorem takes_no {X : Cx} : Takes X NoX := fun u s' ⟨_, _, _, _, _, _, _, _, _, _, _, _, _, _, _, _, w⟩ => w.elim
theorem ifsT_ok (C : CmOk cm) {d : Sc} (O : OkC d k X) (ifs : List Expr) : PTs X ifs (tB2 X.K X.mg NoX (ifsT cm ifs d)) := by
  unfold ifsT
  split
  · refine ⟨fun pins s σ H Q I h => pts_nil.run pins s σ H Q I ?_⟩
    obtain ⟨ρ, G, R, h⟩ := h
    exact h H G R Fr.refl
  · exact pts_one (C.B d k X NoX O takes_no _)
  · exact ⟨fun pins s σ H Q I h => let ⟨_, _, _, z⟩ := h; False.elim z⟩
theorem compE_ok (C : CmOk cm) (O : OkC c k X) (tk : Takes X Wx) {elt : Expr} {gs : List Comprehension} {scope : Scope} {pos : Pos} : PM X Wx (.ListComp elt gs scope pos) (compE cm c elt gs scope) := by
  unfold compE
  split
  · rename_i tg it ifs
    split
    · rename_i h
      rw [Bool.and_eq_true] at h
      have b := blk_ok h.1
      refine pm_lc (own := ownOf c.N scope.names) O.calm (by rw [O.N]; exact O.nd) (iterI_ok C O tk) (by rw [O.N, O.sc]; exact b) (fun s H Cc cl fp => ?_) (fun s H Cc cl fp => ?_) (fun s H Cc cl fp => ?_) (set_ok (by simpa using h.2))
      · rw [O.N]
        exact tgt_ok (inner_ok O s H Cc cl fp) tg
      · exact ifsT_ok C (inner_ok O s H Cc cl fp) ifs
      · exact C.E _ k _ NoX (inner_ok O s H Cc cl fp) takes_no elt
    · exact pm_bad
  · exact pm_bad
theorem stepE_ok (C : CmOk cm) (O : OkC c k X) (tk : Takes X Wx) (e : Expr) : PM X Wx e (stepE cm c e) := by
  unfold stepE
  split
  · exact pm_const pe_int rfl
  · exact pm_const pe_bl rfl
  · exact pm_const pe_non rfl
  · exact pm_const pe_str rfl
  · exact nameE_ok O
  · exact pm_bin (C.A c k X Wx O tk _) (C.A c k X Wx O tk _)
  · exact pm_neg (C.A c k X Wx O tk _)
  · exact pm_not (C.A c k X Wx O tk _)
  · exact orE_ok C O tk _
  · exact andE_ok C O tk _
  · exact cmpE_ok C O tk
  · exact pm_if (C.B c k X Wx O tk _) (C.E c k X Wx O tk _) (C.E c k X Wx O tk _)
  · exact pm_tup (dsL_ok (C.E c k X Wx O tk) _)
  · exact pm_lst (dsL_ok (C.E c k X Wx O tk) _)
  · exact dictE_ok C O tk
  · exact subE_ok C O tk
  · exact callE_ok C O tk
  · split
    · rename_i h
      exact methE_ok C O tk h
    · exact pm_bad
  · exact compE_ok C O tk
  · exact pm_bad
theorem stepA_ok (C : CmOk cm) (O : OkC c k X) (tk : Takes X Wx) (e : Expr) : PMA X Wx e (stepA cm c e) := by
  unfold stepA
  split
  · exact nameA_ok O
  · exact pma_of (stepE_ok C O tk e)
theorem stepB_ok (C : CmOk cm) (O : OkC c k X) (tk : Takes X Wx) (e : Expr) : PMB X Wx e (stepB cm c e) := by
  unfold stepB
  split
  · exact (orT_ok C O tk _).pt
  · exact (andT_ok C O tk _).pt
  · exact pmb_not (C.B c k X Wx O tk _)
  · exact cmpT_ok C O tk
  · split
    · rename_i h
      exact pmb_truth (stepA_ok C O tk e) (plainT_ok h)
    · exact pmb_bad
end
theorem CmOk.next {cm : Cm} (C : CmOk cm) : CmOk cm.next := ⟨fun c k X Wx O tk e => stepE_ok C O tk e, fun c k X Wx O tk e => stepA_ok C O tk e, fun c k X Wx O tk e => stepB_ok C O tk e⟩
theorem cmN_ok : ∀ n, CmOk (cmN n)
  | 0 => CmOk.zero
  | n + 1 => (cmN_ok n).next
end FL
set_option Elab.async false
set_option linter.all false
set_option maxRecDepth 100000
set_option maxHeartbeats 2000000
namespace FL
open PySem PySem.Spec L2
open PyProof.Rows hiding St
def lineOf (ts : List Expr) : Nat := (ts.head?.map (·.pos.line)).getD 0
def locNames (sc : Scope) (l : Nat) (ts : List Expr) : List Str := ts.filterMap fun
  | .Name id pos => if sc.names.lookup id == some .local && pos.line == l then some id else none
  | _ => none
/-- the stores go in their order -/
def swNone (sc : Scope) (ts : List Expr) (e : Expr) : Bool := match e with
  | .Tuple vs _ _ => !(ts.length == 2 || ts.length == 3) || vs.length != ts.length || (locNames sc (lineOf ts) ts).length != ts.length || vs.all (foldedForSure 8)
  | _ => true
theorem swNone_ok {env : Env} {ts : List Expr} {kk : Nat} {p : Pos} {e : Expr} (h : swNone env.scope ts e = true) : swappedStores [.Tuple ts kk p] e env = pure none := by
  cases e with
  | Tuple vs k2 p2 =>
    have h' : (!(ts.length == 2 || ts.length == 3) || vs.length != ts.length || (locNames env.scope (lineOf ts) ts).length != ts.length || vs.all (foldedForSure 8)) = true := h
    unfold swappedStores
    simp only [pure_bind]
    split
    · rfl
    · rename_i c1
      split
      · rfl
      · split
        · rfl
        · rename_i c3
          split
          · rfl
          · rename_i c4
            exfalso
            have c1' : (!(ts.length == 2 || ts.length == 3) || vs.length != ts.length || env.blockKind != ScopeKind.function) = false := by simpa using c1
            rw [Bool.or_eq_false_iff, Bool.or_eq_false_iff] at c1'
            rw [c1'.1.1, c1'.1.2, Bool.false_or, Bool.false_or] at h'
            rw [Bool.or_eq_true] at h'
            rcases h' with z | z
            · apply c3
              rw [Bool.or_eq_true]
              exact .inl z
            · exact c4 z
  | _ => rfl
theorem swPar_ok {env : Env} {x y : Str} {px py p p2 : Pos} {a b : Expr} {kk k2 : Nat} (hk : env.scope.kind = .function) (hx : env.scope.names.lookup x = some .local) (hy : env.scope.names.lookup y = some .local) (hl : (py.line == px.line) = true) (hxy : x ≠ y)
    (h1 : isStar a = false) (h2 : isStar b = false) (h3 : [a, b].all (foldedForSure 8) = false) (h4 : [a, b].all (constantsAlone 8) = false) : swappedStores [.Tuple [.Name x px, .Name y py] kk p] (.Tuple [a, b] k2 p2) env = pure (some [x, y]) := by
  have bk : env.blockKind = .function := by unfold Env.blockKind; rw [hk]; rfl
  have kx : env.kindOf x = some .local := hx
  have ky : env.kindOf y = some .local := hy
  have ne : (x == y) = false := by simpa using hxy
  have ne2 : (y == x) = false := by simpa using Ne.symm hxy
  unfold swappedStores
  simp only [pure_bind, List.length_cons, List.length_nil, bk, List.head?_cons, Option.map_some, Option.getD_some, Expr.pos, List.filterMap_cons, List.filterMap_nil, kx, ky, hl, h3, h4]
  rw [if_neg (by decide)]
  split
  · rename_i z
    exfalso
    obtain ⟨e, he, hz⟩ := List.any_eq_true.mp z
    have hs : isStar e = false := by
      rcases List.mem_cons.mp he with q | q
      · rw [q]; exact h1
      · rw [List.mem_singleton.mp q]; exact h2
    cases e <;> first
      | (have z2 : false = true := hz; cases z2)
      | (have z2 : true = false := hs; cases z2)
  · simp [ne, ne2, List.eraseDups, List.eraseDupsBy, List.eraseDupsBy.loop]
section
variable (cm : Cm) (c : Sc)
def blk (f : Stmt → M Fl) : List Stmt → M Fl
  | [] => nextM
  | s :: r => seqM (f s) (blk f r)
def retE (e : Expr) : M Fl := match e with
  | .Name x _ => if (okName x && visB c x) = true then match slotIx c.N x with
      | some i => retS c.io i
      | none => badM
    else retM (cm.E c e)
  | e => retM (cm.E c e)
def setE (x : Str) (px : Pos) (e : Expr) : M Fl := match slotIx c.N x with
  | some i => if locB c x = true then match e with
      | .ListComp elt gs scope lp =>
        if (decide (c.sc.kind = .function) && c.sc.names.lookup x == some .local && px.line == lp.line && !(scope.names.any fun (n, k) => n == x && (k == .local || k == .cell))) = true then setM c.io i (compE cm c elt gs scope)
        else if (c.sc.names.lookup x == some .cell) = true then setM c.io i (cm.E c e) else badM
      | e => if isComp e = true then badM else setM c.io i (cm.E c e)
    else badM
  | none => badM
def subS (o ix e : Expr) : M Fl := match o with
  | .Name x _ => if (okName x && visB c x && noSlice ix) = true then match slotIx c.N x with
      | some i => setSubM i (cm.E c e) (cm.A c ix)
      | none => badM
    else badM
  | _ => badM
def parS (ts : List Expr) (kk : Nat) (p : Pos) (e : Expr) : M Fl :=
  if swNone c.sc ts e = true then asgM (tgt c (.Tuple ts kk p)) (cm.E c e) else match ts, e with
  | [.Name x px, .Name y py], .Tuple [a, b] _ _ => match slotIx c.N x, slotIx c.N y with
    | some i, some j => if (decide (c.sc.kind = .function) && c.sc.names.lookup x == some .local && c.sc.names.lookup y == some .local && py.line == px.line && !(x == y) && !isStar a && !isStar b && !([a, b].all (foldedForSure 8)) && !([a, b].all (constantsAlone 8)) && decide (i ≠ j)) = true then
        parM c.io i j (cm.E c a) (cm.E c b)
      else badM
    | _, _ => badM
  | _, _ => badM
def stepS (f : Stmt → M Fl) (st : Stmt) : M Fl := match st with
  | .Expr (.Constant (.str _) _ _) _ => nextM
  | .Expr e _ => if isComp e = true then badM else dropM (cm.E c e)
  | .Return none _ => retN
  | .Return (some e) _ => retE cm c e
  | .Pass _ => nextM
  | .Break _ => fun ρ => .ok .brk ρ
  | .Continue _ => fun ρ => .ok .cont ρ
  | .If t a b _ => ifS (cm.B c t) (blk f a) (blk f b)
  | .While t a [] _ => whileM (cm.B c t) (blk f a) c.lim
  | .For tg it b [] _ => if isSet it = true then badM else forS (iterI cm c tg it) (tgt c tg) (blk f b)
  | .Assign [.Name x px] e _ => setE cm c x px e
  | .Assign [.Subscript o ix _] e _ => subS cm c o ix e
  | .Assign [.Tuple ts kk p] e _ => parS cm c ts kk p e
  | _ => badM
def stmtN : Nat → Stmt → M Fl
  | 0 => fun _ => badM
  | n + 1 => stepS cm c (stmtN n)
end
section
variable {c : Sc} {k : Nat} {X : Cx} {Wx : WX} {cm : Cm} {f : Stmt → M Fl}
theorem pms_badS {st : Stmt} {io : List Nat} : PMS X Wx io st badM := ⟨fun pins s σ H En I h => let ⟨_, _, _, z⟩ := h; False.elim z⟩
theorem blk_okS (h : ∀ st, PMS X Wx c.io st (f st)) : ∀ sts, PMSs X Wx c.io sts (blk f sts)
  | [] => pms_nil
  | s :: r => pms_cons (h s) (blk_okS h r)
theorem noSwap {e : Expr} {t : Option Expr} {l : Nat} {env : Env} (h : isComp e = false) : swapsWith e t l env = pure false := by
  cases e <;> first
    | rfl
    | cases h
theorem noSwapT {e : Expr} {es : List Expr} {kk : Nat} {p : Pos} {l : Nat} {env : Env} : swapsWithSole [.Tuple es kk p] e l env = pure false := by
  cases e <;> rfl
theorem sw_cell {elt : Expr} {gs : List Comprehension} {scope : Scope} {pos py : Pos} {y : Str} {l : Nat} {env : Env} (hy : env.scope.names.lookup y = some .cell) : swapsWith (.ListComp elt gs scope pos) (some (.Name y py)) l env = pure false := by
  have ky : env.kindOf y = some .cell := hy
  have nb : (NameKind.cell == NameKind.local) = false := rfl
  unfold swapsWith
  simp [ky, nb]
theorem retE_ok (C : CmOk cm) (O : OkC c k X) (tk : Takes X Wx) {e : Expr} {pos : Pos} : PMS X Wx c.io (.Return (some e) pos) (retE cm c e) := by
  unfold retE
  split
  · rename_i x p
    split
    · rename_i h
      rw [Bool.and_eq_true] at h
      obtain ⟨h1, h2, h3⟩ := okName_ok h.1
      split
      · rename_i i hi
        exact pms_retS (by rw [O.N]; exact slotIx_ok hi) (visB_ok O h.2) h1 h2
      · exact pms_badS
    · exact pms_ret (C.E c k X Wx O tk _)
  · exact pms_ret (C.E c k X Wx O tk _)
theorem setBad {st : Stmt} {io : List Nat} {i : Nat} : PMS X Wx io st (setM io i badM) := ⟨fun pins s σ H En I h => let ⟨_, _, _, z⟩ := h; False.elim z⟩
theorem setE_ok (C : CmOk cm) (O : OkC c k X) (tk : Takes X Wx) {x : Str} {px pos : Pos} {e : Expr} : PMS X Wx c.io (.Assign [.Name x px] e pos) (setE cm c x px e) := by
  unfold setE
  split
  · rename_i i hi
    have hi' : X.N[i]? = some x := by rw [O.N]; exact slotIx_ok hi
    have nd : X.N.Nodup := by rw [O.N]; exact O.nd
    split
    · rename_i hl
      obtain ⟨l1, l2⟩ := locB_ok O hl
      split
      · rename_i elt gs scope lp
        split
        · rename_i h
          rw [Bool.and_eq_true, Bool.and_eq_true, Bool.and_eq_true] at h
          obtain ⟨⟨⟨hk, hx⟩, hln⟩, ha⟩ := h
          have hx' : X.env.scope.names.lookup x = some .local := by rw [O.sc]; exact eq_of_beq hx
          unfold compE
          split
          · rename_i tg it ifs
            split
            · rename_i h
              rw [Bool.and_eq_true] at h
              have b := blk_ok h.1
              refine pms_setLc (own := ownOf c.N scope.names) O.calm nd hi' hx' (sw_true (by rw [O.sc]; exact of_decide_eq_true hk) hx' hln (by simpa using ha)) (iterI_ok C O tk) (by rw [O.N, O.sc]; exact b) (fun s H Cc cl fp => ?_) (fun s H Cc cl fp => ?_) (fun s H Cc cl fp => ?_) (set_ok (by simpa using h.2))
              · rw [O.N]
                exact tgt_ok (inner_ok O s H Cc cl fp) tg
              · exact ifsT_ok C (inner_ok O s H Cc cl fp) ifs
              · exact C.E _ k _ NoX (inner_ok O s H Cc cl fp) takes_no elt
            · exact setBad
          · exact setBad
        · split
          · rename_i h
            exact pms_set nd hi' l1 (C.E c k X Wx O tk _) (sw_cell (by rw [O.sc]; exact eq_of_beq h)) l2
          · exact pms_badS
      · split
        · exact pms_badS
        · rename_i h
          exact pms_set nd hi' l1 (C.E c k X Wx O tk _) (noSwap (by simpa using h)) l2
    · exact pms_badS
  · exact pms_badS
theorem subS_ok (C : CmOk cm) (O : OkC c k X) (tk : Takes X Wx) {o ix e : Expr} {p pos : Pos} : PMS X Wx c.io (.Assign [.Subscript o ix p] e pos) (subS cm c o ix e) := by
  have hu : X.A.units + 1 < cLine := by have := O.hu; omega
  unfold subS
  split
  · rename_i x q
    split
    · rename_i h
      rw [Bool.and_eq_true, Bool.and_eq_true] at h
      obtain ⟨⟨hn, hv⟩, hs⟩ := h
      obtain ⟨h1, h2, h3⟩ := okName_ok hn
      split
      · rename_i i hi
        exact pms_setSub hu (by rw [O.N]; exact slotIx_ok hi) (visB_ok O hv) h1 h2 (C.E c k X Wx O tk _) (C.A c k X Wx O tk _) hs
      · exact pms_badS
    · exact pms_badS
  · exact pms_badS
theorem parS_ok (C : CmOk cm) (O : OkC c k X) (tk : Takes X Wx) {ts : List Expr} {kk : Nat} {e : Expr} {p pos : Pos} : PMS X Wx c.io (.Assign [.Tuple ts kk p] e pos) (parS cm c ts kk p e) := by
  unfold parS
  split
  · rename_i h
    exact pms_asg (C.E c k X Wx O tk e) (tgt_ok O _) noSwapT (swNone_ok (by rw [O.sc]; exact h)) rfl (tgt_nf _)
  · split
    · rename_i x px y py a b k2 p2 _
      split
      · rename_i i j hi hj
        split
        · rename_i h
          simp only [Bool.and_eq_true] at h
          obtain ⟨⟨⟨⟨⟨⟨⟨⟨⟨hk, hx⟩, hy⟩, hl⟩, hxy⟩, sa⟩, sb⟩, f1⟩, f2⟩, hij⟩ := h
          have hx' : X.env.scope.names.lookup x = some .local := by rw [O.sc]; exact eq_of_beq hx
          have hy' : X.env.scope.names.lookup y = some .local := by rw [O.sc]; exact eq_of_beq hy
          have sa' : isStar a = false := by simpa using sa
          have sb' : isStar b = false := by simpa using sb
          exact pms_par O.calm (by rw [O.N]; exact O.nd) (by rw [O.N]; exact slotIx_ok hi) (by rw [O.N]; exact slotIx_ok hj) (of_decide_eq_true hij) hx' hy' (C.E c k X Wx O tk a) (C.E c k X Wx O tk b) (star_cons sa') (star_cons sb')
            (swPar_ok (by rw [O.sc]; exact of_decide_eq_true hk) hx' hy' hl (by simpa using hxy) sa' sb' (by rw [← Bool.not_eq_true']; exact f1) (by rw [← Bool.not_eq_true']; exact f2))
        · exact pms_badS
      · exact pms_badS
    · exact pms_badS
theorem stepS_ok (C : CmOk cm) (O : OkC c k X) (tk : Takes X Wx) (po : PassesOwn (model X.prog X.w) X.A X.env X.xe) (h : ∀ st, PMS X Wx c.io st (f st)) (st : Stmt) : PMS X Wx c.io st (stepS cm c f st) := by
  unfold stepS
  split
  · exact psImp ps_doc fun D σ H h => let ⟨ρ, G, R, h⟩ := h; h σ H G R Fr.refl
  · split
    · exact pms_badS
    · rename_i hc
      exact pms_expr (C.E c k X Wx O tk _) (noSwap (by simpa using hc))
  · exact pms_retN
  · exact retE_ok C O tk
  · exact pms_pass
  · exact pms_break
  · exact pms_continue
  · exact pms_if (C.B c k X Wx O tk _) (blk_okS h _) (blk_okS h _)
  · exact pms_while po (C.B c k X Wx O tk _) (blk_okS h _)
  · split
    · exact pms_badS
    · rename_i hc
      exact pms_for po O.calm (iterI_ok C O tk) (tgt_ok O _) (blk_okS h _) (set_ok (by simpa using hc)) (tgt_nf _)
  · exact setE_ok C O tk
  · exact subS_ok C O tk
  · exact parS_ok C O tk
  · exact pms_badS
theorem stmtN_ok (C : CmOk cm) (O : OkC c k X) (tk : Takes X Wx) (po : PassesOwn (model X.prog X.w) X.A X.env X.xe) : ∀ n st, PMS X Wx c.io st (stmtN cm c n st)
  | 0, _ => pms_badS
  | n + 1, st => stepS_ok C O tk po (stmtN_ok C O tk po n) st
end
end FL
set_option Elab.async false
set_option linter.all false
set_option maxRecDepth 100000
set_option maxHeartbeats 2000000
namespace FL
open PySem PySem.Spec L2
open PyProof.Rows hiding St
/-- how deep expressions, statements are read -/
abbrev rdE : Nat := 24
abbrev rdS : Nat := 12
def rd (c : Sc) (b : List Stmt) : M Fl := blk (stmtN (cmN rdE) c rdS) b
section
variable {P : Program} {w : World} {K : PySem.W.Frag} {mg : Str → Option Value} {base : Heap}
theorem fn_ok {x qual : Str} {st : Stmt} {f : Addr} {fd : FuncData} {c : Sc} {ps : List Str} {sig : List Bool} {k : Nat} {m : M Fl} (F : Fun K x qual st f fd) (S : FnScope c.N ps (defScope st)) (hsig : sig.length = ps.length) (hsc : c.sc = defScope st) (hio : c.io = ioOf 0 sig)
    (hm : rd c (defBody st) = m) (hgl : ∀ x e, c.gl.lookup x = some e → GOk P w K mg base k x e) : FnG P w K mg base (k + 1) f fd ps (fnM c.N.length sig m) := by
  obtain ⟨oc, od, kV, doc, pm, an, cdv, ct, osl, rfl, lk, hcd⟩ := F.ex
  refine fnG_of lk hcd S hsig fun A outer s H E hr hg => ?_
  rw [← hm, ← hio]
  have O : OkC c k (cxOf (L2.CX P w) P w K mg base c.N qual (defScope st) f cdv A outer s H E) :=
    ⟨rfl, S.nd, hsc.symm, rfl, by have := hr.un; show (A.deeper _).units + 200 < cLine; omega, hg, hr, hgl, fun _ _ => rfl⟩
  exact blk_okS (fun st => stmtN_ok (cmN_ok rdE) O (takes_of rfl rfl rfl rfl) (passes_of rfl) rdS st) _
theorem fnG_bad {k : Nat} {f : Addr} {fd : FuncData} {ps : List Str} : FnG P w K mg base k f fd ps (fun _ => .bad) :=
  ⟨fun _ h => absurd rfl h, fun _ _ _ _ _ _ _ _ _ _ _ _ _ _ h => let ⟨_, _, _, z⟩ := h; False.elim z⟩
/-- a global def at its place in a table -/
theorem gok_fn {x : Str} {f : Addr} {fd : FuncData} {ps : List Str} {F : FnSem} {sig : List Bool} {j k : Nat} {st : Stmt} {qual nm : Str} (U : Fun K nm qual st f fd) (b : Binds K fd ps []) (G : FnG P w K mg base j f fd ps F) (h : j ≤ k) (e : mg x = some (.ref f)) : GOk P w K mg base k x (.fn F sig) :=
  ⟨f, fd, ps, e, U.kp, G.mono h, b⟩
/-- a table's rows, one after another -/
theorem gl_nil {k : Nat} : ∀ x e, ([] : List (Str × GE)).lookup x = some e → GOk P w K mg base k x e := fun x e h => by cases h
theorem gl_cons {k : Nat} {y : Str} {g : GE} {r : List (Str × GE)} (h1 : GOk P w K mg base k y g) (h2 : ∀ x e, r.lookup x = some e → GOk P w K mg base k x e) : ∀ x e, ((y, g) :: r).lookup x = some e → GOk P w K mg base k x e := fun x e h => by
  rw [List.lookup_cons] at h
  cases hb : x == y with
  | true =>
    rw [hb] at h
    cases h
    rw [eq_of_beq hb]
    exact h1
  | false =>
    rw [hb] at h
    exact h2 x e h
end
theorem law_end {P : Program} {w : World} {K : PySem.W.Frag} {mg mb : Str → Option Value} {k : Nat} {fa a : Addr} {fd : FuncData} {x : Str} {F : FnSem} {s : Shared} {us : List Value} {ns : List Int} {n : Nat}
    (inK : K.In s.heap) (hmg : s.heap.Ns mainGlobals mg) (hmb : s.heap.Ns builtinsNs mb) (hboot : ∀ y : Str, y ≠ "__name__" → mb y = bootBuiltins y) (lim : s.heap.NoLimit) (noG : s.gens = #[])
    (at_ : s.heap.get? a = some { cls := .type "list", data := .seq us.toArray }) (isI : IntsAre us ns) (len : ns.length ≤ n) (hn : n ≤ sizeLine) (room : Room k callerA)
    (FG : ∀ base : Heap, K.In base → base.Ns mainGlobals mg → FnG P w K mg base k fa fd [x] F) (bind : ∀ (s : Shared) (u : Value), BindsTo s fd ⟨[u], []⟩ [(x, u)])
    (truth : ∃ o, F [.d (.scr ns)] = .ok (.d (.bl true)) o) :
    codeAny (model P w) callerA (.call (.ref fa) ⟨[.ref a], []⟩) (fun r s' => r = .ok (.ret (.bool true)) ∧ OldK s.heap s'.heap ∧ s'.os = s.os ∧ AllBare s'.gens) s := by
  have vals := vals_ints isI
  have small : ns.length ≤ sizeLine := Nat.le_trans len hn
  -- all that is tracked: the script, unless it is one of the module's objects
  have go : ∀ H : Hp, (∀ b, H b = none ∨ (b = a ∧ H b = some (.frz { cls := .type "list", data := .seq us.toArray } (.lst (ns.map V.int))))) → (H a ≠ none → K.lookup a = none) → SqL K H a (ns.map V.int) →
      codeAny (model P w) callerA (.call (.ref fa) ⟨[.ref a], []⟩) (fun r s' => r = .ok (.ret (.bool true)) ∧ OldK s.heap s'.heap ∧ s'.os = s.os ∧ AllBare s'.gens) s := fun H only noK isL => by
    have hok : HOk P w H s.heap := fun b u hb => by
      rcases only b with z | ⟨z1, z2⟩
      · rw [z] at hb; cases hb
      · rw [z2] at hb
        cases hb
        subst z1
        exact ⟨at_, by rw [List.length_map]; exact small, us, _, vals, at_⟩
    have free : ∀ {b : Addr} {o : Obj}, s.heap.get? b = some o → o ≠ { cls := .type "list", data := .seq us.toArray } → H b = none := fun {b o} e ne => by
      rcases only b with z | ⟨z1, _⟩
      · exact z
      · subst z1
        rw [at_] at e
        exact absurd (Option.some.inj e).symm ne
    have kept : ∀ {b : Addr} {m : Str → Option Value}, s.heap.Ns b m → (hidT s.heap H).Ns b m := fun {b m} ⟨o, es, ep, e, d, r⟩ => ⟨o, es, ep, hidT_get e (free e fun z => by rw [z] at d; cases d), d, r⟩
    have inB : K.In (hidT s.heap H) := fun b o e => hidT_get (inK b o e) (by
      rcases only b with z | ⟨z1, z2⟩
      · exact z
      · subst z1
        rw [noK (by rw [z2]; simp)] at e
        cases e)
    have md : Mod K mg (hidT s.heap H) := ⟨inB, kept hmg, ⟨mb, kept hmb, hboot⟩, let ⟨mc, l1, l2⟩ := lim; ⟨mc, kept l1, l2⟩⟩
    have none_in : ∀ {b : Addr}, b ∉ frs ([] : List Env) := fun {b} z => absurd (show b ∈ ([] : List Addr) from z) (by simp)
    have env : Env0 P w K mg (hidT s.heap H) callerA [] s H := ⟨rfl, md, fun b o e => of_hidT e, Nat.le_of_eq (hidT_size _ _), trivial, fun b hb => absurd hb none_in, hok, .of_eq noG⟩
    obtain ⟨outs, eF⟩ := truth
    have ent : EntA K mg [.ref a] [.d (.scr ns)] H H := by
      refine ⟨rfl, SubH.refl, fun i w hw => ?_, fun i j y z v h1 => ?_⟩
      · cases i with
        | zero =>
          have e1 : W.d (.scr ns) = w := by simpa using hw
          subst e1
          exact ⟨.ref a, rfl, a, rfl, isL⟩
        | succ i => simp at hw
      · cases i with
        | zero => simp at h1
        | succ i => simp at h1
    have sp : spF K mg F [.ref a] H (fun v _ => v = .bl true) fun _ _ _ => False := ⟨_, H, ent, by
      rw [eF]
      exact fun v H' G' _ rv _ => rv⟩
    refine codeAny_mono ((FG _ inB (kept hmg)).run callerA [] s H ⟨[.ref a], []⟩ [.ref a] [.ref a] _ _ room rfl env (bind s (.ref a)) (.cons rfl .nil) sp) fun r s' q => ?_
    match r, q with
    | .error e, q => exact let ⟨_, _, _, _, _, _, _, _, _, _, _, _, z⟩ := q; False.elim z
    | .ok .next, q => exact False.elim q
    | .ok .brk, q => exact False.elim q
    | .ok .cont, q => exact False.elim q
    | .ok (.ret u), q =>
      obtain ⟨v, H', os, bare, un, hok', rv, ev⟩ := q
      have ev' : v = .bl true := ev
      subst ev'
      obtain rfl : u = Value.bool true := rv
      refine ⟨rfl, OldK.of_keep fun b o e => ?_, os, bare⟩
      rcases only b with z | ⟨z1, z2⟩
      · exact un.keep b o e z none_in (by simp)
      · subst z1
        obtain ⟨e2, _⟩ := hok' b _ (un.frzs b _ _ z2)
        rw [at_] at e
        cases e
        exact e2
  cases hk : K.lookup a with
  | some o =>
    have e := inK a o hk
    rw [at_] at e
    cases e
    exact go (fun _ => none) (fun _ => .inl rfl) (fun z => absurd rfl z) (.inr ⟨_, us.toArray, _, hk, rfl, rfl, rfl, by rw [List.size_toArray, isI.length]; exact small, by simpa using vals⟩)
  | none =>
    refine go (fun b => if b = a then some (.frz { cls := .type "list", data := .seq us.toArray } (.lst (ns.map V.int))) else none) (fun b => ?_) (fun _ => hk) (.inl (.inr ⟨_, if_pos rfl⟩))
    by_cases hb : b = a
    · exact .inr ⟨hb, if_pos hb⟩
    · exact .inl (if_neg hb)
/-- what k_head leaves, from the law's def -/
theorem walk_end {l : PySem.W.OpenLaw} {n k : Nat} {q : Program} {loose : List Str} {XP : (Str → Option Value) → Heap → Prop} {YP : World → Heap → Prop} {d : DefRec} {K : Params → PySem.W.Frag} {x : Str} {F : FnSem}
    (hn : l.most = some n) (hn2 : n ≤ sizeLine) (hdf : d.params.defaults = []) (hr : Room k callerA) (hY : ∀ (w : World) (h : Heap), YP w h → (K w.params).In h)
    (FF : ∀ (w : World) (mg : Str → Option Value) (fa : Addr) (h : Heap), (K w.params).In h → h.Ns mainGlobals mg → mg d.name = some (.ref fa) →
      ∃ fd : FuncData, (∀ (s : Shared) (u : Value), BindsTo s fd ⟨[u], []⟩ [(x, u)]) ∧ ∀ base : Heap, (K w.params).In base → base.Ns mainGlobals mg → FnG l.prog w (K w.params) mg base k fa fd [x] F)
    (truth : ∀ ns : List Int, ns.length ≤ n → (∀ z ∈ ns, Builtin.Int.intBits z ≤ 1048576) → ∃ o, F [.d (.scr ns)] = .ok (.d (.bl true)) o) :
    PySem.W.WalkO q loose XP YP l.row.toRowW d [] (fun f vs => PySem.call f vs) := by
  refine Att.attach_callB hn hdf fun w s₀ s₁ mg mb fa o pm cd doc a vs ns G Y ho hd hcd hmg hobj hints hlen hbits hg => ?_
  obtain ⟨fd, hb, hF⟩ := FF w mg fa _ (hY w _ Y) G.T.g hmg
  exact law_end (hY w _ Y) G.T.g G.T.b G.T.builtins G.T.nolimit hg hobj hints hlen hn2 hr hF hb (truth ns hlen hbits)
end FL
set_option Elab.async false
set_option linter.all false
set_option maxRecDepth 100000
set_option maxHeartbeats 4000000
set_option exponentiation.threshold 2000
namespace FL
open PySem PySem.Spec L2
open PyProof.Rows hiding St
def penM : M Fl := (seqM (setM [] 1 (constM (.int (0)))) (seqM (forS (iterM (slotM 0)) (nameG [] 2) (seqM (setM [] 1 (binM .Mod (datA (bcM intW (consA (datA (binM .Add (datA (binM .Mult (slotA 1) (datA (constM (.int (199)))))) (slotA 2))) nilA))) (datA (constM (.int (999998689)))))) nextM)) (seqM (retM (dictM [(.inr "cells", (bcM listW (consA (slotA 0) nilA))), (.inr "at", (constM (.int (0)))), (.inr "digits", (constM (.int (0)))), (.inr "count", (constM (.int (0)))), (.inr "fold", (slotM 1))])) nextM)))
def kBig : Int := 2305843009213693951
def k61 : Int := 61
def pw61 (a : Int) : Int := a ^ 61
def dS1 : M Fl := (setSubM 0 (binM .Add (datA (ixM (slotA 0) (datA (constM (.str "count"))))) (datA (constM (.int (1))))) (datA (constM (.str "count"))))
def dS2 : M Fl := (ifS (andB (boolM (cmpM .Eq (datA (ixM (slotA 0) (datA (constM (.str "digits"))))) (datA (constM (.int (0)))))) (boolM (cmpM .Lt (datA (ixM (slotA 0) (datA (constM (.str "at"))))) (datA (bcM lenW (consA (datA (ixM (slotA 0) (datA (constM (.str "cells"))))) nilA)))))) (seqM (setM [0] 2 (ixM (datA (ixM (slotA 0) (datA (constM (.str "cells"))))) (datA (ixM (slotA 0) (datA (constM (.str "at"))))))) (seqM (setSubM 0 (binM .Add (datA (ixM (slotA 0) (datA (constM (.str "at"))))) (datA (constM (.int (1))))) (datA (constM (.str "at")))) (seqM (ifS (boolM (cmpM .GtE (slotA 2) (datA (binM .Pow (datA (constM (.int (10)))) (datA (constM (.int (18)))))))) (seqM (setSubM 0 (binM .Sub (slotA 2) (datA (binM .Pow (datA (constM (.int (10)))) (datA (constM (.int (18))))))) (datA (constM (.str "digits")))) nextM) (seqM (setSubM 0 (binM .Mod (datA (bcM intW (consA (datA (binM .Add (datA (binM .Mult (datA (ixM (slotA 0) (datA (constM (.str "fold"))))) (datA (constM (.int (50021)))))) (slotA 2))) nilA))) (datA (constM (.int (2147482943))))) (datA (constM (.str "fold")))) nextM)) nextM))) nextM)
def dS3 : M Fl := (ifS (boolM (cmpM .Gt (datA (ixM (slotA 0) (datA (constM (.str "digits"))))) (datA (constM (.int (0)))))) (seqM (setM [0] 3 (binM .Mod (datA (bcM intW (consA (datA (ixM (slotA 0) (datA (constM (.str "digits"))))) nilA))) (slotA 1))) (seqM (setSubM 0 (binM .FloorDiv (datA (ixM (slotA 0) (datA (constM (.str "digits"))))) (slotA 1)) (datA (constM (.str "digits")))) (seqM (retS [0] 3) nextM))) nextM)
def dS4 : M Fl := (setM [0] 4 (binM .Add (datA (binM .Add (datA (ixM (slotA 0) (datA (constM (.str "fold"))))) (datA (binM .Mult (datA (ixM (slotA 0) (datA (constM (.str "count"))))) (datA (constM (.int (7507)))))))) (datA (constM (.int (239))))))
def dS5 : M Fl := (retM (binM .Mod (datA (binM .FloorDiv (datA (bcM intW (consA (datA (binM .Mod (datA (binM .Pow (slotA 4) (datA (constM (.int k61))))) (datA (constM (.int kBig))))) nilA))) (datA (constM (.int (2048)))))) (slotA 1)))
def drawM : M Fl := (seqM dS1 (seqM dS2 (seqM dS3 (seqM dS4 (seqM dS5 nextM)))))
def F_pen : FnSem := fnM 3 [false] penM
def F_draw : FnSem := fnM 5 [true, false] drawM
def penD (ns : List Int) (i dg ct fo : Int) : D := .dct [(.inr "cells", .lst (ns.map .int)), (.inr "at", .int i), (.inr "digits", .int dg), (.inr "count", .int ct), (.inr "fold", .int fo)]
section
variable (ns : List Int) (i dg ct fo x : Int)
theorem pen_cells : ixW (penD ns i dg ct fo) (.str "cells") = some (.d (.lst (ns.map .int))) := by kernel_rfl
theorem pen_at : ixW (penD ns i dg ct fo) (.str "at") = some (.d (.int i)) := by kernel_rfl
theorem pen_digits : ixW (penD ns i dg ct fo) (.str "digits") = some (.d (.int dg)) := by kernel_rfl
theorem pen_count : ixW (penD ns i dg ct fo) (.str "count") = some (.d (.int ct)) := by kernel_rfl
theorem pen_fold : ixW (penD ns i dg ct fo) (.str "fold") = some (.d (.int fo)) := by kernel_rfl
theorem put_at : setW (penD ns i dg ct fo) (.str "at") (.int x) = some (penD ns x dg ct fo) := by kernel_rfl
theorem put_digits : setW (penD ns i dg ct fo) (.str "digits") (.int x) = some (penD ns i x ct fo) := by kernel_rfl
theorem put_count : setW (penD ns i dg ct fo) (.str "count") (.int x) = some (penD ns i dg x fo) := by kernel_rfl
theorem put_fold : setW (penD ns i dg ct fo) (.str "fold") (.int x) = some (penD ns i dg ct x) := by kernel_rfl
end
theorem eq_int (a b : Int) : cmpW .Eq (.int a) (.int b) = some (.d (.bl (decide (a = b)))) := by
  have h : cmpW .Eq (.int a) (.int b) = some (.d (.bl (a == b))) := by kernel_rfl
  rw [h, Bool.beq_eq_decide_eq]
/-- what a draw does: the answer, the pen behind it -/
def afterD (ns : List Int) (i dg ct fo : Int) : Int × Int × Int :=
  if dg = 0 ∧ i < (ns.length : Int) then
    let cell := ns[i.toNat]?.getD 0
    if 1000000000000000000 ≤ cell then (i + 1, cell - 1000000000000000000, fo) else (i + 1, dg, (fo * 50021 + cell).fmod 2147482943)
  else (i, dg, fo)
theorem lt_int (a b : Int) : cmpW .Lt (.int a) (.int b) = some (.d (.bl (decide (a < b)))) := rfl
theorem gt_int (a b : Int) : cmpW .Gt (.int a) (.int b) = some (.d (.bl (decide (b < a)))) := rfl
theorem ge_int (a b : Int) : cmpW .GtE (.int a) (.int b) = some (.d (.bl (decide (b ≤ a)))) := rfl
theorem le_int (a b : Int) : cmpW .LtE (.int a) (.int b) = some (.d (.bl (decide (a ≤ b)))) := rfl
theorem ten18 : powW (.int 10) (.int 18) = some (.d (.int 1000000000000000000)) := by kernel_rfl
theorem mod_int {a b : Int} (h : b ≠ 0) : modW (.int a) (.int b) = some (.d (.int (a.fmod b))) := by
  show (if decide (b = 0) = true then none else _) = _
  rw [if_neg (by simpa using h)]
theorem fdiv_int {a b : Int} (h : b ≠ 0) (h2 : Builtin.divisionGoesByPylong a b = false) : fdivW (.int a) (.int b) = some (.d (.int (a.fdiv b))) := by
  show (if (!decide (b = 0) && !Builtin.divisionGoesByPylong a b) = true then _ else none) = _
  rw [if_pos (by simp [h, h2])]
theorem mul_int {a b : Int} (h : bitsOk a b = true) : mulW (.int a) (.int b) = some (.d (.int (a * b))) := by
  show (if bitsOk a b = true then _ else none) = _
  rw [if_pos h]
theorem bmod {a b : Int} (h : b ≠ 0) : binW .Mod (.int a) (.int b) = some (.d (.int (a.fmod b))) := mod_int h
theorem bdiv {a b : Int} (h : b ≠ 0) (h2 : Builtin.divisionGoesByPylong a b = false) : binW .FloorDiv (.int a) (.int b) = some (.d (.int (a.fdiv b))) := fdiv_int h h2
theorem bmul {a b : Int} (h : bitsOk a b = true) : binW .Mult (.int a) (.int b) = some (.d (.int (a * b))) := mul_int h
theorem badd (a b : Int) : binW .Add (.int a) (.int b) = some (.d (.int (a + b))) := rfl
theorem len_lst (ns : List Int) (h : ns.length ≤ 63) : lenW [.lst (ns.map .int)] = some (.d (.int (ns.length : Int))) := by
  unfold lenW
  simp
theorem at_lst {ns : List Int} {i cell : Int} (h2 : 0 ≤ i) (h3 : i < (ns.length : Int)) (hc : ns[i.toNat]? = some cell) : ixW (.lst (ns.map .int)) (.int i) = some (.d (.int cell)) := by
  show (L2.atI (ns.map D.int) i).map W.d = _
  unfold L2.atI L2.ixN
  rw [List.length_map, if_pos h2, if_pos h3]
  simp [hc]
theorem div_small {a b : Int} (h : b.natAbs < 2 ^ 64) : Builtin.divisionGoesByPylong a b = false := by
  unfold Builtin.divisionGoesByPylong
  have l : b.natAbs.log2 < 64 ∨ b = 0 := by
    by_cases hb : b = 0
    · exact .inr hb
    · exact .inl ((Nat.log2_lt (by omega)).mpr h)
  have d : decide ((if (b == 0) = true then 0 else b.natAbs.log2 / 30 + 1) > 300) = false := by
    apply decide_eq_false
    rcases l with l | l
    · split <;> omega
    · rw [l]; simp
  simp only [d, Bool.false_and]
theorem bits_small {a b : Int} (h1 : a.natAbs < 2 ^ 1000) (h2 : b.natAbs < 2 ^ 1000) : bitsOk a b = true := by
  have i1 := PyProof.Rows.intBits_le h1
  have i2 := PyProof.Rows.intBits_le h2
  unfold bitsOk
  apply decide_eq_true
  omega
theorem pow61 {a : Int} (h : a.natAbs < 2 ^ 64) : powW (.int a) (.int k61) = some (.d (.int (pw61 a))) := by
  show (if decide (0 ≤ (61 : Int) ∧ (61 : Int) ≤ 1000000 ∧ a.natAbs < 2 ^ 64) = true then _ else none) = _
  rw [if_pos (decide_eq_true ⟨by omega, by omega, h⟩)]
  rfl
theorem bpow61 {a : Int} (h : a.natAbs < 2 ^ 64) : binW .Pow (.int a) (.int k61) = some (.d (.int (pw61 a))) := pow61 h
theorem kBig_ne : kBig ≠ 0 := by unfold kBig; omega
/-- a pen as it stands behind at most B draws -/
def PenOk (B : Nat) (P : D) : Prop := ∃ (ns : List Int) (i dg ct fo : Int), P = penD ns i dg ct fo ∧ ns.length ≤ 63 ∧ 0 ≤ i ∧ 0 ≤ dg ∧ 0 ≤ ct ∧ ct ≤ (B : Int) ∧ 0 ≤ fo ∧ fo < 2147482943
def blendI (ct fo : Int) : Int := (pw61 (fo + ct * 7507 + 239)).fmod kBig
section
variable {ρ ρ1 ρ2 : Rho} {w : W} {x y : A} {a b : D}
theorem ev_dat {m : M W} (h : m ρ = .ok w ρ1) : datA m ρ = .ok (.val w.data) ρ1 := by
  show (m ρ).dat _ = _
  rw [h]
  rfl
theorem ev_op2 {φ : D → D → Option W} (h3 : x.res ρ = some a) (h4 : y.res ρ = some b) (h5 : φ a b = some w) : op2 φ x y ρ = .ok w ρ := by
  unfold op2
  rw [h3, h4]
  show liftM (φ a b) ρ = _
  rw [h5]
  rfl
theorem ev_bin {op : Operator} {ma mb : M A} (h1 : ma ρ = .ok x ρ1) (h2 : mb ρ1 = .ok y ρ2) (h3 : x.res ρ2 = some a) (h4 : y.res ρ2 = some b) (h5 : binW op a b = some w) : binM op ma mb ρ = .ok w ρ2 := by
  show (ma ρ).bind _ = _
  rw [h1]
  show (mb ρ1).bind _ = _
  rw [h2]
  exact ev_op2 h3 h4 h5
theorem ev_cmp {op : CmpOp} {ma mb : M A} (h1 : ma ρ = .ok x ρ1) (h2 : mb ρ1 = .ok y ρ2) (h3 : x.res ρ2 = some a) (h4 : y.res ρ2 = some b) (h5 : cmpW op a b = some w) : cmpM op ma mb ρ = .ok w ρ2 := by
  show (ma ρ).bind _ = _
  rw [h1]
  show (mb ρ1).bind _ = _
  rw [h2]
  exact ev_op2 h3 h4 h5
theorem ev_ix {ma mb : M A} (h1 : ma ρ = .ok x ρ1) (h2 : mb ρ1 = .ok y ρ2) (h3 : x.res ρ2 = some a) (h4 : y.res ρ2 = some b) (h5 : ixW a b = some w) : ixM ma mb ρ = .ok w ρ2 := by
  show (ma ρ).bind _ = _
  rw [h1]
  show (mb ρ1).bind _ = _
  rw [h2]
  exact ev_op2 h3 h4 h5
theorem ev_bc1 {φ : List D → Option W} {ma : M A} (h1 : ma ρ = .ok x ρ1) (h2 : x.res ρ1 = some a) (h3 : φ [a] = some w) : bcM φ (consA ma nilA) ρ = .ok w ρ1 := by
  show ((ma ρ).bind _).bind _ = _
  rw [h1]
  show opn φ [x] ρ1 = _
  unfold opn resAll
  rw [h2]
  show liftM (φ [a]) ρ1 = _
  rw [h3]
  rfl
theorem ev_bool {m : M W} {k : Bool} (h : m ρ = .ok (.d (.bl k)) ρ1) : boolM m ρ = .ok k ρ1 := by
  show (match m ρ with
    | .ok (.d (.bl b)) ρ => Res.ok b ρ
    | .exc c fs ρ => .exc c fs ρ
    | _ => .bad) = _
  rw [h]
theorem ev_set {io : List Nat} {i : Nat} {m : M W} (h : m ρ = .ok w ρ1) (hi : io.contains i = false) : setM io i m ρ = .ok .nx (ρ1.set i (some w)) := by
  show (m ρ).bind _ = _
  rw [h]
  show (if io.contains i = true then Res.bad else _) = _
  rw [hi]
  rfl
theorem ev_setSub {i : Nat} {mv : M W} {mi : M A} {c0 c c' k : D} (h1 : mv ρ = .ok w ρ1) (h2 : ρ1[i]? = some (some (.own c0))) (h3 : mi ρ1 = .ok x ρ2) (h4 : ρ2[i]? = some (some (.own c))) (h5 : x.res ρ2 = some k) (h6 : setW c k w.data = some c') :
    setSubM i mv mi ρ = .ok .nx (ρ2.set i (some (.own c'))) := by
  show (mv ρ).dat _ = _
  rw [h1]
  show (match ρ1[i]? with
    | some (some (.own _)) => (mi ρ1).bind fun a ρ => match ρ[i]?, a.res ρ with
      | some (some (.own c)), some k => match setW c k w.data with
        | some c' => Res.ok Fl.nx (ρ.set i (some (.own c')))
        | none => .bad
      | _, _ => .bad
    | _ => .bad) = _
  rw [h2]
  show (mi ρ1).bind _ = _
  rw [h3]
  show (match ρ2[i]?, x.res ρ2 with
      | some (some (.own c)), some k => match setW c k w.data with
        | some c' => Res.ok Fl.nx (ρ2.set i (some (.own c')))
        | none => .bad
      | _, _ => .bad) = _
  rw [h4, h5]
  show (match setW c k w.data with
        | some c' => Res.ok Fl.nx (ρ2.set i (some (.own c')))
        | none => .bad) = _
  rw [h6]
theorem ev_ret {m : M W} (h : m ρ = .ok w ρ1) : retM m ρ = .ok (.ret w) ρ1 := by
  show (m ρ).bind _ = _
  rw [h]
  rfl
theorem ev_if {t : M Bool} {m n : M Fl} {k : Bool} {r : Res Fl} (h : t ρ = .ok k ρ1) (h2 : (if k = true then m ρ1 else n ρ1) = r) : ifS t m n ρ = r := by
  show (t ρ).bind _ = _
  rw [h]
  exact h2
theorem ev_and {s t : M Bool} {k : Bool} {r : Res Bool} (h : s ρ = .ok k ρ1) (h2 : (if k = true then t ρ1 else .ok false ρ1) = r) : andB s t ρ = r := by
  show (s ρ).bind _ = _
  rw [h]
  exact h2
end
theorem seq_nx {s r : M Fl} {ρ ρ' : Rho} (h : s ρ = .ok .nx ρ') : seqM s r ρ = r ρ' := by
  show (s ρ).flow r = _
  rw [h]
  rfl
theorem seq_ret {s r : M Fl} {ρ ρ' : Rho} {w : W} (h : s ρ = .ok (.ret w) ρ') : seqM s r ρ = .ok (.ret w) ρ' := by
  show (s ρ).flow r = _
  rw [h]
  rfl
section
variable (ns : List Int) (i dg ct fo many : Int)
/-- the state of a draw: the pen, many, the cell, the digit, the blend -/
abbrev dR (a b c : Option W) : Rho := [some (.own (penD ns i dg ct fo)), some (.d (.int many)), a, b, c]
theorem d1_ok (a b c : Option W) : dS1 (dR ns i dg ct fo many a b c) = .ok .nx (dR ns i dg (ct + 1) fo many a b c) := by
  simp [dS1, dR, seqM, Res.flow, setSubM, Res.dat, Res.bind, W.data, binM, datA, ixM, slotA, slotM, constM, op2, A.res, liftM, binW, addW, subW, ifS, andB, boolM, cmpM, setM, bcM, consA, nilA, opn, resAll, intW, retS, retM, pen_cells, pen_at, pen_digits, pen_count, pen_fold, put_at, put_digits, put_count, put_fold, eq_int, lt_int, gt_int, ge_int, ten18, nextM]
theorem d2_new (a b c : Option W) (hl : ns.length ≤ 63) (h2 : 0 ≤ i) (h3 : i < (ns.length : Int)) (cell : Int) (hc : ns[i.toNat]? = some cell) (h4 : 1000000000000000000 ≤ cell) : dS2 (dR ns i 0 ct fo many a b c) = .ok .nx (dR ns (i + 1) (cell - 1000000000000000000) ct fo many (some (.d (.int cell))) b c) := by
  simp [dS2, dR, seqM, Res.flow, setSubM, Res.dat, Res.bind, W.data, binM, datA, ixM, slotA, slotM, constM, op2, A.res, liftM, binW, addW, subW, ifS, andB, boolM, cmpM, setM, bcM, consA, nilA, opn, resAll, intW, retS, retM, pen_cells, pen_at, pen_digits, pen_count, pen_fold, put_at, put_digits, put_count, put_fold, eq_int, lt_int, gt_int, ge_int, ten18, nextM, len_lst ns hl, at_lst h2 h3 hc, h3, h4]
theorem d2_test (a b c : Option W) (hl : ns.length ≤ 63) (h3 : i < (ns.length : Int)) :
    andB (boolM (cmpM .Eq (datA (ixM (slotA 0) (datA (constM (.str "digits"))))) (datA (constM (.int (0)))))) (boolM (cmpM .Lt (datA (ixM (slotA 0) (datA (constM (.str "at"))))) (datA (bcM lenW (consA (datA (ixM (slotA 0) (datA (constM (.str "cells"))))) nilA))))) (dR ns i 0 ct fo many a b c) = .ok true (dR ns i 0 ct fo many a b c) := by
  simp [dR, seqM, Res.flow, setSubM, Res.dat, Res.bind, W.data, binM, datA, ixM, slotA, slotM, constM, op2, A.res, liftM, binW, addW, subW, ifS, andB, boolM, cmpM, setM, bcM, consA, nilA, opn, resAll, intW, retS, retM, pen_cells, pen_at, pen_digits, pen_count, pen_fold, put_at, put_digits, put_count, put_fold, eq_int, lt_int, gt_int, ge_int, ten18, nextM, len_lst ns hl, h3]
theorem d2_cell (a b c : Option W) (h2 : 0 ≤ i) (h3 : i < (ns.length : Int)) (cell : Int) (hc : ns[i.toNat]? = some cell) :
    setM [0] 2 (ixM (datA (ixM (slotA 0) (datA (constM (.str "cells"))))) (datA (ixM (slotA 0) (datA (constM (.str "at")))))) (dR ns i 0 ct fo many a b c) = .ok .nx (dR ns i 0 ct fo many (some (.d (.int cell))) b c) := by
  simp [dR, seqM, Res.flow, setSubM, Res.dat, Res.bind, W.data, binM, datA, ixM, slotA, slotM, constM, op2, A.res, liftM, binW, addW, subW, ifS, andB, boolM, cmpM, setM, bcM, consA, nilA, opn, resAll, intW, retS, retM, pen_cells, pen_at, pen_digits, pen_count, pen_fold, put_at, put_digits, put_count, put_fold, eq_int, lt_int, gt_int, ge_int, ten18, nextM, at_lst h2 h3 hc]
theorem d2_at (a b c : Option W) :
    setSubM 0 (binM .Add (datA (ixM (slotA 0) (datA (constM (.str "at"))))) (datA (constM (.int (1))))) (datA (constM (.str "at"))) (dR ns i 0 ct fo many a b c) = .ok .nx (dR ns (i + 1) 0 ct fo many a b c) := by
  simp [dR, seqM, Res.flow, setSubM, Res.dat, Res.bind, W.data, binM, datA, ixM, slotA, slotM, constM, op2, A.res, liftM, binW, addW, subW, ifS, andB, boolM, cmpM, setM, bcM, consA, nilA, opn, resAll, intW, retS, retM, pen_cells, pen_at, pen_digits, pen_count, pen_fold, put_at, put_digits, put_count, put_fold, eq_int, lt_int, gt_int, ge_int, ten18, nextM]
theorem d2_big (b c : Option W) (cell : Int) (h4 : ¬ 1000000000000000000 ≤ cell) :
    boolM (cmpM .GtE (slotA 2) (datA (binM .Pow (datA (constM (.int (10)))) (datA (constM (.int (18))))))) (dR ns i 0 ct fo many (some (.d (.int cell))) b c) = .ok false (dR ns i 0 ct fo many (some (.d (.int cell))) b c) := by
  simp [dR, seqM, Res.flow, setSubM, Res.dat, Res.bind, W.data, binM, datA, ixM, slotA, slotM, constM, op2, A.res, liftM, binW, addW, subW, ifS, andB, boolM, cmpM, setM, bcM, consA, nilA, opn, resAll, intW, retS, retM, pen_cells, pen_at, pen_digits, pen_count, pen_fold, put_at, put_digits, put_count, put_fold, eq_int, lt_int, gt_int, ge_int, ten18, nextM, h4]
theorem d2_fold (b c : Option W) (cell : Int) (hf : bitsOk fo 50021 = true) :
    setSubM 0 (binM .Mod (datA (bcM intW (consA (datA (binM .Add (datA (binM .Mult (datA (ixM (slotA 0) (datA (constM (.str "fold"))))) (datA (constM (.int (50021)))))) (slotA 2))) nilA))) (datA (constM (.int (2147482943))))) (datA (constM (.str "fold"))) (dR ns i 0 ct fo many (some (.d (.int cell))) b c) = .ok .nx (dR ns i 0 ct ((fo * 50021 + cell).fmod 2147482943) many (some (.d (.int cell))) b c) := by
  have d0 : (2147482943 : Int) ≠ 0 := by omega
  have e1 : binM .Mult (datA (ixM (slotA 0) (datA (constM (.str "fold"))))) (datA (constM (.int (50021)))) (dR ns i 0 ct fo many (some (.d (.int cell))) b c) = .ok (.d (.int (fo * 50021))) (dR ns i 0 ct fo many (some (.d (.int cell))) b c) :=
    ev_bin (ev_dat (ev_ix (w := .d (.int fo)) rfl rfl rfl rfl (pen_fold ns i 0 ct fo))) rfl rfl rfl (bmul hf)
  have e2 : binM .Add (datA (binM .Mult (datA (ixM (slotA 0) (datA (constM (.str "fold"))))) (datA (constM (.int (50021)))))) (slotA 2) (dR ns i 0 ct fo many (some (.d (.int cell))) b c) = .ok (.d (.int (fo * 50021 + cell))) (dR ns i 0 ct fo many (some (.d (.int cell))) b c) :=
    ev_bin (ev_dat e1) rfl rfl rfl (badd _ _)
  have e3 : bcM intW (consA (datA (binM .Add (datA (binM .Mult (datA (ixM (slotA 0) (datA (constM (.str "fold"))))) (datA (constM (.int (50021)))))) (slotA 2))) nilA) (dR ns i 0 ct fo many (some (.d (.int cell))) b c) = .ok (.d (.int (fo * 50021 + cell))) (dR ns i 0 ct fo many (some (.d (.int cell))) b c) :=
    ev_bc1 (ev_dat e2) rfl rfl
  have e4 : binM .Mod (datA (bcM intW (consA (datA (binM .Add (datA (binM .Mult (datA (ixM (slotA 0) (datA (constM (.str "fold"))))) (datA (constM (.int (50021)))))) (slotA 2))) nilA))) (datA (constM (.int (2147482943)))) (dR ns i 0 ct fo many (some (.d (.int cell))) b c) = .ok (.d (.int ((fo * 50021 + cell).fmod 2147482943))) (dR ns i 0 ct fo many (some (.d (.int cell))) b c) :=
    ev_bin (ev_dat e3) rfl rfl rfl (bmod d0)
  exact ev_setSub e4 rfl rfl rfl rfl (put_fold ns i 0 ct fo _)
theorem d2_old (a b c : Option W) (hl : ns.length ≤ 63) (h2 : 0 ≤ i) (h3 : i < (ns.length : Int)) (cell : Int) (hc : ns[i.toNat]? = some cell) (h4 : ¬ 1000000000000000000 ≤ cell) (hf : bitsOk fo 50021 = true) : dS2 (dR ns i 0 ct fo many a b c) = .ok .nx (dR ns (i + 1) 0 ct ((fo * 50021 + cell).fmod 2147482943) many (some (.d (.int cell))) b c) := by
  unfold dS2
  refine ev_if (d2_test ns i ct fo many a b c hl h3) ?_
  rw [if_pos rfl, seq_nx (d2_cell ns i ct fo many a b c h2 h3 cell hc), seq_nx (d2_at ns i ct fo many _ b c)]
  refine (seq_nx (ρ' := dR ns (i + 1) 0 ct ((fo * 50021 + cell).fmod 2147482943) many (some (.d (.int cell))) b c) (ev_if (d2_big ns (i + 1) ct fo many b c cell h4) ?_)).trans rfl
  rw [if_neg (by decide), seq_nx (d2_fold ns (i + 1) ct fo many b c cell hf)]
  rfl
theorem d2_end (a b c : Option W) (hl : ns.length ≤ 63) (h3 : ¬ i < (ns.length : Int)) : dS2 (dR ns i 0 ct fo many a b c) = .ok .nx (dR ns i 0 ct fo many a b c) := by
  simp [dS2, dR, seqM, Res.flow, setSubM, Res.dat, Res.bind, W.data, binM, datA, ixM, slotA, slotM, constM, op2, A.res, liftM, binW, addW, subW, ifS, andB, boolM, cmpM, setM, bcM, consA, nilA, opn, resAll, intW, retS, retM, pen_cells, pen_at, pen_digits, pen_count, pen_fold, put_at, put_digits, put_count, put_fold, eq_int, lt_int, gt_int, ge_int, ten18, nextM, len_lst ns hl, h3]
theorem d2_skip (a b c : Option W) (h : dg ≠ 0) : dS2 (dR ns i dg ct fo many a b c) = .ok .nx (dR ns i dg ct fo many a b c) := by
  simp [dS2, dR, seqM, Res.flow, setSubM, Res.dat, Res.bind, W.data, binM, datA, ixM, slotA, slotM, constM, op2, A.res, liftM, binW, addW, subW, ifS, andB, boolM, cmpM, setM, bcM, consA, nilA, opn, resAll, intW, retS, retM, pen_cells, pen_at, pen_digits, pen_count, pen_fold, put_at, put_digits, put_count, put_fold, eq_int, lt_int, gt_int, ge_int, ten18, nextM, h]
theorem d3_ret (a b c : Option W) (h : 0 < dg) (hm : many ≠ 0) (hm2 : many.natAbs < 2 ^ 64) : dS3 (dR ns i dg ct fo many a b c) = .ok (.ret (.d (.int (dg.fmod many)))) (dR ns i (dg.fdiv many) ct fo many a (some (.d (.int (dg.fmod many)))) c) := by
  simp [dS3, dR, seqM, Res.flow, setSubM, Res.dat, Res.bind, W.data, binM, datA, ixM, slotA, slotM, constM, op2, A.res, liftM, binW, addW, subW, ifS, andB, boolM, cmpM, setM, bcM, consA, nilA, opn, resAll, intW, retS, retM, pen_cells, pen_at, pen_digits, pen_count, pen_fold, put_at, put_digits, put_count, put_fold, eq_int, lt_int, gt_int, ge_int, ten18, nextM, h, mod_int hm, fdiv_int hm (div_small hm2)]
theorem d3_skip (a b c : Option W) : dS3 (dR ns i 0 ct fo many a b c) = .ok .nx (dR ns i 0 ct fo many a b c) := by
  simp [dS3, dR, seqM, Res.flow, setSubM, Res.dat, Res.bind, W.data, binM, datA, ixM, slotA, slotM, constM, op2, A.res, liftM, binW, addW, subW, ifS, andB, boolM, cmpM, setM, bcM, consA, nilA, opn, resAll, intW, retS, retM, pen_cells, pen_at, pen_digits, pen_count, pen_fold, put_at, put_digits, put_count, put_fold, eq_int, lt_int, gt_int, ge_int, ten18, nextM]
theorem d4_a (a b c : Option W) : ixM (slotA 0) (datA (constM (.str "fold"))) (dR ns i dg ct fo many a b c) = .ok (.d (.int fo)) (dR ns i dg ct fo many a b c) := ev_ix rfl rfl rfl rfl (pen_fold ns i dg ct fo)
theorem d4_b (a b c : Option W) : ixM (slotA 0) (datA (constM (.str "count"))) (dR ns i dg ct fo many a b c) = .ok (.d (.int ct)) (dR ns i dg ct fo many a b c) := ev_ix rfl rfl rfl rfl (pen_count ns i dg ct fo)
theorem d4_c (a b c : Option W) (hb : bitsOk ct 7507 = true) : binM .Mult (datA (ixM (slotA 0) (datA (constM (.str "count"))))) (datA (constM (.int (7507)))) (dR ns i dg ct fo many a b c) = .ok (.d (.int (ct * 7507))) (dR ns i dg ct fo many a b c) := ev_bin (ev_dat (d4_b ns i dg ct fo many a b c)) rfl rfl rfl (bmul hb)
theorem d4_d (a b c : Option W) (hb : bitsOk ct 7507 = true) : binM .Add (datA (ixM (slotA 0) (datA (constM (.str "fold"))))) (datA (binM .Mult (datA (ixM (slotA 0) (datA (constM (.str "count"))))) (datA (constM (.int (7507)))))) (dR ns i dg ct fo many a b c) = .ok (.d (.int (fo + ct * 7507))) (dR ns i dg ct fo many a b c) := ev_bin (ev_dat (d4_a ns i dg ct fo many a b c)) (ev_dat (d4_c ns i dg ct fo many a b c hb)) rfl rfl (badd _ _)
theorem d4_e (a b c : Option W) (hb : bitsOk ct 7507 = true) : binM .Add (datA (binM .Add (datA (ixM (slotA 0) (datA (constM (.str "fold"))))) (datA (binM .Mult (datA (ixM (slotA 0) (datA (constM (.str "count"))))) (datA (constM (.int (7507)))))))) (datA (constM (.int (239)))) (dR ns i dg ct fo many a b c) = .ok (.d (.int (fo + ct * 7507 + 239))) (dR ns i dg ct fo many a b c) := ev_bin (ev_dat (d4_d ns i dg ct fo many a b c hb)) rfl rfl rfl (badd _ _)
theorem d4_ok (a b c : Option W) (hb : bitsOk ct 7507 = true) : dS4 (dR ns i dg ct fo many a b c) = .ok .nx (dR ns i dg ct fo many a b (some (.d (.int (fo + ct * 7507 + 239))))) := ev_set (d4_e ns i dg ct fo many a b c hb) rfl
theorem z0 (a b : Option W) (z : Int) (hp : z.natAbs < 2 ^ 64) : binM .Pow (slotA 4) (datA (constM (.int k61))) (dR ns i dg ct fo many a b (some (.d (.int z)))) = .ok (.d (.int (pw61 z))) (dR ns i dg ct fo many a b (some (.d (.int z)))) := ev_bin rfl rfl rfl rfl (bpow61 hp)
theorem z1 (a b : Option W) (z : Int) (hp : z.natAbs < 2 ^ 64) : binM .Mod (datA (binM .Pow (slotA 4) (datA (constM (.int k61))))) (datA (constM (.int kBig))) (dR ns i dg ct fo many a b (some (.d (.int z)))) = .ok (.d (.int ((pw61 z).fmod kBig))) (dR ns i dg ct fo many a b (some (.d (.int z)))) := ev_bin (ev_dat (z0 ns i dg ct fo many a b z hp)) rfl rfl rfl (bmod kBig_ne)
theorem z2 (a b : Option W) (z : Int) (hp : z.natAbs < 2 ^ 64) : bcM intW (consA (datA (binM .Mod (datA (binM .Pow (slotA 4) (datA (constM (.int k61))))) (datA (constM (.int kBig))))) nilA) (dR ns i dg ct fo many a b (some (.d (.int z)))) = .ok (.d (.int ((pw61 z).fmod kBig))) (dR ns i dg ct fo many a b (some (.d (.int z)))) := ev_bc1 (ev_dat (z1 ns i dg ct fo many a b z hp)) rfl rfl
theorem z3a (x : Int) : binW .FloorDiv (.int x) (.int 2048) = some (.d (.int (x.fdiv 2048))) := bdiv (by omega) (div_small (b := 2048) (by decide))
theorem z3 (a b : Option W) (z : Int) (hp : z.natAbs < 2 ^ 64) : binM .FloorDiv (datA (bcM intW (consA (datA (binM .Mod (datA (binM .Pow (slotA 4) (datA (constM (.int k61))))) (datA (constM (.int kBig))))) nilA))) (datA (constM (.int 2048))) (dR ns i dg ct fo many a b (some (.d (.int z)))) = .ok (.d (.int (((pw61 z).fmod kBig).fdiv 2048))) (dR ns i dg ct fo many a b (some (.d (.int z)))) := ev_bin (ev_dat (z2 ns i dg ct fo many a b z hp)) rfl rfl rfl (z3a _)
theorem z4 (a b : Option W) (z : Int) (hm : many ≠ 0) (hp : z.natAbs < 2 ^ 64) : binM .Mod (datA (binM .FloorDiv (datA (bcM intW (consA (datA (binM .Mod (datA (binM .Pow (slotA 4) (datA (constM (.int k61))))) (datA (constM (.int kBig))))) nilA))) (datA (constM (.int 2048))))) (slotA 1) (dR ns i dg ct fo many a b (some (.d (.int z)))) = .ok (.d (.int ((((pw61 z).fmod kBig).fdiv 2048).fmod many))) (dR ns i dg ct fo many a b (some (.d (.int z)))) := ev_bin (ev_dat (z3 ns i dg ct fo many a b z hp)) rfl rfl rfl (bmod hm)
theorem d5_ok (a b : Option W) (z : Int) (hm : many ≠ 0) (hp : z.natAbs < 2 ^ 64) : dS5 (dR ns i dg ct fo many a b (some (.d (.int z)))) = .ok (.ret (.d (.int ((((pw61 z).fmod kBig).fdiv 2048).fmod many)))) (dR ns i dg ct fo many a b (some (.d (.int z)))) := ev_ret (z4 ns i dg ct fo many a b z hm hp)
theorem draw_of {w : W} {i' dg' ct' fo' : Int} {a b c : Option W} (h : drawM (dR ns i dg ct fo many none none none) = .ok (.ret w) (dR ns i' dg' ct' fo' many a b c)) : F_draw [.own (penD ns i dg ct fo), .d (.int many)] = .ok w [.own (penD ns i' dg' ct' fo'), .d .non] := by
  have e : F_draw [.own (penD ns i dg ct fo), .d (.int many)] = (match drawM (dR ns i dg ct fo many none none none) with
      | .ok .nx ρ => finF [.own (penD ns i dg ct fo), .d (.int many)] (.d .non) ρ
      | .ok (.ret w) ρ => finF [.own (penD ns i dg ct fo), .d (.int many)] w ρ
      | .exc c fs ρ => match outsOf ρ 0 [.own (penD ns i dg ct fo), .d (.int many)] with
        | some os => .exc c fs os
        | none => .bad
      | _ => .bad) := rfl
  rw [e, h]
  rfl
theorem draw_new (hl : ns.length ≤ 63) (h2 : 0 ≤ i) (h3 : i < (ns.length : Int)) (cell : Int) (hc : ns[i.toNat]? = some cell) (h4 : 1000000000000000000 ≤ cell) (h5 : 1000000000000000000 < cell) (hm : many ≠ 0) (hm2 : many.natAbs < 2 ^ 64) :
    F_draw [.own (penD ns i 0 ct fo), .d (.int many)] = .ok (.d (.int ((cell - 1000000000000000000).fmod many))) [.own (penD ns (i + 1) ((cell - 1000000000000000000).fdiv many) (ct + 1) fo), .d .non] := by
  have e : drawM (dR ns i 0 ct fo many none none none) = .ok (.ret (.d (.int ((cell - 1000000000000000000).fmod many)))) (dR ns (i + 1) ((cell - 1000000000000000000).fdiv many) (ct + 1) fo many (some (.d (.int cell))) (some (.d (.int ((cell - 1000000000000000000).fmod many)))) none) := by
    unfold drawM
    rw [seq_nx (d1_ok ns i 0 ct fo many none none none), seq_nx (d2_new ns i (ct + 1) fo many none none none hl h2 h3 cell hc h4), seq_ret (d3_ret ns (i + 1) (cell - 1000000000000000000) (ct + 1) fo many _ none none (by omega) hm hm2)]
  exact draw_of ns i 0 ct fo many e
theorem draw_on (h : 0 < dg) (hm : many ≠ 0) (hm2 : many.natAbs < 2 ^ 64) :
    F_draw [.own (penD ns i dg ct fo), .d (.int many)] = .ok (.d (.int (dg.fmod many))) [.own (penD ns i (dg.fdiv many) (ct + 1) fo), .d .non] := by
  have e : drawM (dR ns i dg ct fo many none none none) = .ok (.ret (.d (.int (dg.fmod many)))) (dR ns i (dg.fdiv many) (ct + 1) fo many none (some (.d (.int (dg.fmod many)))) none) := by
    unfold drawM
    rw [seq_nx (d1_ok ns i dg ct fo many none none none), seq_nx (d2_skip ns i dg (ct + 1) fo many none none none (by omega)), seq_ret (d3_ret ns i dg (ct + 1) fo many none none none h hm hm2)]
  exact draw_of ns i dg ct fo many e
theorem draw_tail (a : Option W) (hm : many ≠ 0) (hb : bitsOk ct 7507 = true) (hp : (fo + ct * 7507 + 239).natAbs < 2 ^ 64) : (seqM dS3 (seqM dS4 (seqM dS5 nextM))) (dR ns i 0 ct fo many a none none) = .ok (.ret (.d (.int (((blendI ct fo).fdiv 2048).fmod many)))) (dR ns i 0 ct fo many a none (some (.d (.int (fo + ct * 7507 + 239))))) := by
  rw [seq_nx (d3_skip ns i ct fo many a none none), seq_nx (d4_ok ns i 0 ct fo many a none none hb), seq_ret (d5_ok ns i 0 ct fo many a none _ hm hp)]
  rfl
theorem draw_blend0 (hl : ns.length ≤ 63) (h3 : ¬ i < (ns.length : Int)) (hm : many ≠ 0) (hb : bitsOk (ct + 1) 7507 = true) (hp : (fo + (ct + 1) * 7507 + 239).natAbs < 2 ^ 64) :
    F_draw [.own (penD ns i 0 ct fo), .d (.int many)] = .ok (.d (.int (((blendI (ct + 1) fo).fdiv 2048).fmod many))) [.own (penD ns i 0 (ct + 1) fo), .d .non] := by
  have e : drawM (dR ns i 0 ct fo many none none none) = .ok (.ret (.d (.int (((blendI (ct + 1) fo).fdiv 2048).fmod many)))) (dR ns i 0 (ct + 1) fo many none none (some (.d (.int (fo + (ct + 1) * 7507 + 239))))) := by
    unfold drawM
    rw [seq_nx (d1_ok ns i 0 ct fo many none none none), seq_nx (d2_end ns i (ct + 1) fo many none none none hl h3), draw_tail ns i (ct + 1) fo many none hm hb hp]
  exact draw_of ns i 0 ct fo many e
theorem draw_blend1 (hl : ns.length ≤ 63) (h2 : 0 ≤ i) (h3 : i < (ns.length : Int)) (cell : Int) (hc : ns[i.toNat]? = some cell) (h4 : ¬ 1000000000000000000 ≤ cell) (hm : many ≠ 0) (hf : bitsOk fo 50021 = true) (hb : bitsOk (ct + 1) 7507 = true)
    (hp : ((fo * 50021 + cell).fmod 2147482943 + (ct + 1) * 7507 + 239).natAbs < 2 ^ 64) :
    F_draw [.own (penD ns i 0 ct fo), .d (.int many)] = .ok (.d (.int (((blendI (ct + 1) ((fo * 50021 + cell).fmod 2147482943)).fdiv 2048).fmod many))) [.own (penD ns (i + 1) 0 (ct + 1) ((fo * 50021 + cell).fmod 2147482943)), .d .non] := by
  have e : drawM (dR ns i 0 ct fo many none none none) = .ok (.ret (.d (.int (((blendI (ct + 1) ((fo * 50021 + cell).fmod 2147482943)).fdiv 2048).fmod many)))) (dR ns (i + 1) 0 (ct + 1) ((fo * 50021 + cell).fmod 2147482943) many (some (.d (.int cell))) none (some (.d (.int ((fo * 50021 + cell).fmod 2147482943 + (ct + 1) * 7507 + 239))))) := by
    unfold drawM
    rw [seq_nx (d1_ok ns i 0 ct fo many none none none), seq_nx (d2_old ns i (ct + 1) fo many none none none hl h2 h3 cell hc h4 hf), draw_tail ns (i + 1) (ct + 1) _ many _ hm hb hp]
  exact draw_of ns i 0 ct fo many e
theorem draw_blend2 (hl : ns.length ≤ 63) (h2 : 0 ≤ i) (h3 : i < (ns.length : Int)) (hc : ns[i.toNat]? = some 1000000000000000000) (hm : many ≠ 0) (hb : bitsOk (ct + 1) 7507 = true) (hp : (fo + (ct + 1) * 7507 + 239).natAbs < 2 ^ 64) :
    F_draw [.own (penD ns i 0 ct fo), .d (.int many)] = .ok (.d (.int (((blendI (ct + 1) fo).fdiv 2048).fmod many))) [.own (penD ns (i + 1) 0 (ct + 1) fo), .d .non] := by
  have d2 := d2_new ns i (ct + 1) fo many none none none hl h2 h3 1000000000000000000 hc (by omega)
  rw [show (1000000000000000000 : Int) - 1000000000000000000 = 0 by omega] at d2
  have e : drawM (dR ns i 0 ct fo many none none none) = .ok (.ret (.d (.int (((blendI (ct + 1) fo).fdiv 2048).fmod many)))) (dR ns (i + 1) 0 (ct + 1) fo many (some (.d (.int 1000000000000000000))) none (some (.d (.int (fo + (ct + 1) * 7507 + 239))))) := by
    unfold drawM
    rw [seq_nx (d1_ok ns i 0 ct fo many none none none), seq_nx d2, draw_tail ns (i + 1) (ct + 1) fo many _ hm hb hp]
  exact draw_of ns i 0 ct fo many e
end
theorem fmod_in {a b : Int} (h : 0 < b) : 0 ≤ a.fmod b ∧ a.fmod b < b := by
  rw [Int.fmod_eq_emod_of_nonneg a (by omega)]
  exact ⟨Int.emod_nonneg a (by omega), Int.emod_lt_of_pos a h⟩
theorem fdiv_in {a b : Int} (h : 0 < b) (ha : 0 ≤ a) : 0 ≤ a.fdiv b := by
  rw [Int.fdiv_eq_ediv_of_nonneg a (by omega)]
  exact Int.ediv_nonneg ha (by omega)
/-- EVERY draw: a number below many, and the pen goes on -/
theorem draw_ok {B : Nat} {P : D} {many : Int} (h : PenOk B P) (hB : B < 2 ^ 40) (h1 : 0 < many) (h2 : many < 2 ^ 62) : ∃ (r : Int) (P' : D), 0 ≤ r ∧ r < many ∧ PenOk (B + 1) P' ∧ F_draw [.own P, .d (.int many)] = .ok (.d (.int r)) [.own P', .d .non] := by
  obtain ⟨ns, i, dg, ct, fo, rfl, hl, hi, hd, hc0, hc1, hf0, hf1⟩ := h
  have m0 : many ≠ 0 := by omega
  have m1 : many.natAbs < 2 ^ 64 := by omega
  have b1 : bitsOk (ct + 1) 7507 = true := by
    refine bits_small (Nat.lt_trans (show _ < 2 ^ 64 by omega) ?_) (Nat.lt_trans (show _ < 2 ^ 64 by decide) ?_)
    · exact Nat.pow_lt_pow_right (by omega) (by omega)
    · exact Nat.pow_lt_pow_right (by omega) (by omega)
  have b2 : bitsOk fo 50021 = true := by
    refine bits_small (Nat.lt_trans (show _ < 2 ^ 64 by omega) ?_) (Nat.lt_trans (show _ < 2 ^ 64 by decide) ?_)
    · exact Nat.pow_lt_pow_right (by omega) (by omega)
    · exact Nat.pow_lt_pow_right (by omega) (by omega)
  have cB : ct + 1 ≤ ((B + 1 : Nat) : Int) := by omega
  have blend : ∀ f : Int, 0 ≤ f → f < 2147482943 → (f + (ct + 1) * 7507 + 239).natAbs < 2 ^ 64 := fun f g0 g1 => by omega
  by_cases d0 : dg = 0
  · subst d0
    by_cases hi2 : i < (ns.length : Int)
    · have hlt : i.toNat < ns.length := by omega
      obtain ⟨cell, hc⟩ : ∃ cell, ns[i.toNat]? = some cell := ⟨_, List.getElem?_eq_getElem hlt⟩
      by_cases big : 1000000000000000000 ≤ cell
      · by_cases eq : cell = 1000000000000000000
        · subst eq
          exact ⟨_, _, (fmod_in h1).1, (fmod_in h1).2, ⟨ns, i + 1, 0, ct + 1, fo, rfl, hl, by omega, by omega, by omega, cB, hf0, hf1⟩, draw_blend2 ns i ct fo many hl hi hi2 hc m0 b1 (blend fo hf0 hf1)⟩
        · have gt : 1000000000000000000 < cell := by omega
          exact ⟨_, _, (fmod_in h1).1, (fmod_in h1).2, ⟨ns, i + 1, _, ct + 1, fo, rfl, hl, by omega, fdiv_in h1 (by omega), by omega, cB, hf0, hf1⟩, draw_new ns i ct fo many hl hi hi2 cell hc big gt m0 m1⟩
      · have fm := fmod_in (a := fo * 50021 + cell) (b := 2147482943) (by omega)
        exact ⟨_, _, (fmod_in h1).1, (fmod_in h1).2, ⟨ns, i + 1, 0, ct + 1, _, rfl, hl, by omega, by omega, by omega, cB, fm.1, fm.2⟩, draw_blend1 ns i ct fo many hl hi hi2 cell hc big m0 b2 b1 (blend _ fm.1 fm.2)⟩
    · exact ⟨_, _, (fmod_in h1).1, (fmod_in h1).2, ⟨ns, i, 0, ct + 1, fo, rfl, hl, hi, by omega, by omega, cB, hf0, hf1⟩, draw_blend0 ns i ct fo many hl hi2 m0 b1 (blend fo hf0 hf1)⟩
  · have pos : 0 < dg := by omega
    exact ⟨_, _, (fmod_in h1).1, (fmod_in h1).2, ⟨ns, i, _, ct + 1, fo, rfl, hl, hi, fdiv_in h1 hd, by omega, cB, hf0, hf1⟩, draw_on ns i dg ct fo many pos m0 m1⟩
theorem forM_nx {g : D → M Unit} {b : M Fl} {x : D} {xs : List D} {ρ ρ1 ρ2 : Rho} (h : g x ρ = .ok () ρ1) (h2 : b ρ1 = .ok .nx ρ2) : forM g b (x :: xs) ρ = forM g b xs ρ2 := by
  show ((g x ρ).bind fun _ ρ => (b ρ).loop (forM g b xs)) = _
  rw [h]
  show (b ρ1).loop (forM g b xs) = _
  rw [h2]
  rfl
theorem nextM_ok (ρ : Rho) : nextM ρ = .ok .nx ρ := rfl
def pB : M Fl := setM [] 1 (binM .Mod (datA (bcM intW (consA (datA (binM .Add (datA (binM .Mult (slotA 1) (datA (constM (.int (199)))))) (slotA 2))) nilA))) (datA (constM (.int (999998689)))))
abbrev pR (ns : List Int) (fo : Int) (c : Option W) : Rho := [some (.d (.scr ns)), some (.d (.int fo)), c]
section
variable (ns : List Int) (fo cell : Int)
theorem p_a (hb : bitsOk fo 199 = true) : binM .Mult (slotA 1) (datA (constM (.int (199)))) (pR ns fo (some (.d (.int cell)))) = .ok (.d (.int (fo * 199))) (pR ns fo (some (.d (.int cell)))) := ev_bin rfl rfl rfl rfl (bmul hb)
theorem p_b (hb : bitsOk fo 199 = true) : binM .Add (datA (binM .Mult (slotA 1) (datA (constM (.int (199)))))) (slotA 2) (pR ns fo (some (.d (.int cell)))) = .ok (.d (.int (fo * 199 + cell))) (pR ns fo (some (.d (.int cell)))) := ev_bin (ev_dat (p_a ns fo cell hb)) rfl rfl rfl (badd _ _)
theorem p_c (hb : bitsOk fo 199 = true) : bcM intW (consA (datA (binM .Add (datA (binM .Mult (slotA 1) (datA (constM (.int (199)))))) (slotA 2))) nilA) (pR ns fo (some (.d (.int cell)))) = .ok (.d (.int (fo * 199 + cell))) (pR ns fo (some (.d (.int cell)))) := ev_bc1 (ev_dat (p_b ns fo cell hb)) rfl rfl
theorem p_d (hb : bitsOk fo 199 = true) : binM .Mod (datA (bcM intW (consA (datA (binM .Add (datA (binM .Mult (slotA 1) (datA (constM (.int (199)))))) (slotA 2))) nilA))) (datA (constM (.int (999998689)))) (pR ns fo (some (.d (.int cell)))) = .ok (.d (.int ((fo * 199 + cell).fmod 999998689))) (pR ns fo (some (.d (.int cell)))) := ev_bin (ev_dat (p_c ns fo cell hb)) rfl rfl rfl (bmod (by omega))
theorem p_e (hb : bitsOk fo 199 = true) : pB (pR ns fo (some (.d (.int cell)))) = .ok .nx (pR ns ((fo * 199 + cell).fmod 999998689) (some (.d (.int cell)))) := ev_set (p_d ns fo cell hb) rfl
end
theorem pen_loop (ns : List Int) : ∀ (cs : List Int) (fo : Int) (c : Option W), 0 ≤ fo → fo < 999998689 → ∃ (fo' : Int) (c' : Option W), 0 ≤ fo' ∧ fo' < 999998689 ∧ forM (nameG [] 2) (seqM pB nextM) (cs.map .int) (pR ns fo c) = .ok .nx (pR ns fo' c')
  | [], fo, c, h0, h1 => ⟨fo, c, h0, h1, rfl⟩
  | z :: cs, fo, c, h0, h1 => by
    have hb : bitsOk fo 199 = true := by
      refine bits_small (Nat.lt_trans (show _ < 2 ^ 64 by omega) ?_) (Nat.lt_trans (show _ < 2 ^ 64 by decide) ?_)
      · exact Nat.pow_lt_pow_right (by omega) (by omega)
      · exact Nat.pow_lt_pow_right (by omega) (by omega)
    have fm := fmod_in (a := fo * 199 + z) (b := 999998689) (by omega)
    obtain ⟨fo', c', g0, g1, e⟩ := pen_loop ns cs ((fo * 199 + z).fmod 999998689) (some (.d (.int z))) fm.1 fm.2
    refine ⟨fo', c', g0, g1, ?_⟩
    have st : (seqM pB nextM) (pR ns fo (some (.d (.int z)))) = .ok .nx (pR ns ((fo * 199 + z).fmod 999998689) (some (.d (.int z)))) := by
      rw [seq_nx (p_e ns fo z hb)]
      exact nextM_ok _
    have nm : nameG [] 2 (D.int z) (pR ns fo c) = .ok () (pR ns fo (some (.d (.int z)))) := rfl
    rw [List.map_cons, forM_nx nm st]
    exact e
theorem pen_end (ns : List Int) (fo : Int) (c : Option W) : (retM (dictM [(.inr "cells", (bcM listW (consA (slotA 0) nilA))), (.inr "at", (constM (.int (0)))), (.inr "digits", (constM (.int (0)))), (.inr "count", (constM (.int (0)))), (.inr "fold", (slotM 1))])) (pR ns fo c) = .ok (.ret (.own (penD ns 0 0 0 fo))) (pR ns fo c) := by kernel_rfl
theorem penM_is : penM = seqM (setM [] 1 (constM (.int (0)))) (seqM (forS (iterM (slotM 0)) (nameG [] 2) (seqM pB nextM)) (seqM (retM (dictM [(.inr "cells", (bcM listW (consA (slotA 0) nilA))), (.inr "at", (constM (.int (0)))), (.inr "digits", (constM (.int (0)))), (.inr "count", (constM (.int (0)))), (.inr "fold", (slotM 1))])) nextM)) := rfl
/-- EVERY script makes a pen -/
theorem pen_ok (ns : List Int) (hl : ns.length ≤ 63) : ∃ P, PenOk 0 P ∧ F_pen [.d (.scr ns)] = .ok (.own P) [.d .non] := by
  obtain ⟨fo, c, h0, h1, e⟩ := pen_loop ns ns 0 none (by omega) (by omega)
  refine ⟨penD ns 0 0 0 fo, ⟨ns, 0, 0, 0, fo, rfl, hl, by omega, by omega, by omega, by omega, h0, by omega⟩, ?_⟩
  have f : forS (iterM (slotM 0)) (nameG [] 2) (seqM pB nextM) (pR ns 0 none) = .ok .nx (pR ns fo c) := e
  have st : (setM [] 1 (constM (.int (0)))) [some (.d (.scr ns)), none, none] = .ok .nx (pR ns 0 none) := rfl
  have m : penM [some (.d (.scr ns)), none, none] = .ok (.ret (.own (penD ns 0 0 0 fo))) (pR ns fo c) := by
    rw [penM_is, seq_nx st, seq_nx f, seq_ret (pen_end ns fo c)]
  have u : F_pen [.d (.scr ns)] = (match penM [some (.d (.scr ns)), none, none] with
      | .ok .nx ρ => finF [.d (.scr ns)] (.d .non) ρ
      | .ok (.ret w) ρ => finF [.d (.scr ns)] w ρ
      | .exc c fs ρ => match outsOf ρ 0 [.d (.scr ns)] with
        | some os => .exc c fs os
        | none => .bad
      | _ => .bad) := rfl
  rw [u, m]
  rfl
end FL
set_option Elab.async false
set_option linter.all false
set_option maxRecDepth 100000
set_option maxHeartbeats 2000000
namespace FL
open PySem PySem.Spec L2
open PyProof.Rows hiding St
section
variable {ρ ρ1 ρ2 ρ3 : Rho} {w w1 w2 : W} {x y : A} {a b : FL.D} {F : FnSem}
theorem ev_call1 {m : M A} (h1 : m ρ = .ok (.val a) ρ1) (hf : F [.d a] = .ok w [.d .non]) : callM F (consA m nilA) ρ = .ok w ρ1 := by
  show ((m ρ).bind _).bind _ = _
  rw [h1]
  show (match F [.d a] with
      | .ok w outs => .ok w (setOuts [.val a] outs ρ1)
      | .exc c fs outs => .exc c fs (setOuts [.val a] outs ρ1)
      | .bad => .bad : Res W) = _
  rw [hf]
  rfl
theorem ev_call2 {m n : M A} (h1 : m ρ = .ok (.val a) ρ1) (h2 : n ρ1 = .ok (.val b) ρ2) (hf : F [.d a, .d b] = .ok w [.d .non, .d .non]) : callM F (consA m (consA n nilA)) ρ = .ok w ρ2 := by
  show ((m ρ).bind _).bind _ = _
  rw [h1]
  show (((n ρ1).bind _).bind _).bind _ = _
  rw [h2]
  show (match F [.d a, .d b] with
      | .ok w outs => .ok w (setOuts [.val a, .val b] outs ρ2)
      | .exc c fs outs => .exc c fs (setOuts [.val a, .val b] outs ρ2)
      | .bad => .bad : Res W) = _
  rw [hf]
  rfl
theorem ev_par {io : List Nat} {i j : Nat} {m1 m2 : M W} (h1 : m1 ρ = .ok w1 ρ1) (h2 : m2 ρ1 = .ok w2 ρ2) (h : (io.contains i || io.contains j) = false) : parM io i j m1 m2 ρ = .ok .nx ((ρ2.set i (some w1)).set j (some w2)) := by
  show (m1 ρ).bind _ = _
  rw [h1]
  show (m2 ρ1).bind _ = _
  rw [h2]
  show (if (io.contains i || io.contains j) = true then _ else _) = _
  rw [if_neg (by rw [h]; decide)]
theorem ev_or {s t : M Bool} {k : Bool} {r : Res Bool} (h : s ρ = .ok k ρ1) (h2 : (if k = true then .ok true ρ1 else t ρ1) = r) : orB s t ρ = r := by
  show (s ρ).bind _ = _
  rw [h]
  exact h2
theorem fn_ret {n : Nat} {sig : List Bool} {body : M Fl} {ws os : List W} (hs : sigOk sig ws = true) (h : body (startR n ws) = .ok (.ret w) ρ) (ho : outsOf ρ 0 ws = some os) : fnM n sig body ws = .ok w os := by
  unfold fnM
  rw [if_pos hs, h]
  show finF ws w ρ = _
  unfold finF
  rw [ho]
theorem ev_tup2 {m n : M W} (h1 : m ρ = .ok w1 ρ1) (h2 : n ρ1 = .ok w2 ρ2) : tupM (consL m (consL n nilL)) ρ = .ok (.d (.tup [w1.data, w2.data])) ρ2 := by
  show ((m ρ).dat _).bind _ = _
  rw [h1]
  show (((n ρ1).dat _).bind _).bind _ = _
  rw [h2]
  rfl
theorem ev_asg {g : FL.D → M Unit} {m : M W} (h1 : m ρ = .ok w ρ1) (h2 : g w.data ρ1 = .ok () ρ2) : asgM g m ρ = .ok .nx ρ2 := by
  show (m ρ).dat _ = _
  rw [h1]
  show (g w.data ρ1).bind _ = _
  rw [h2]
  rfl
theorem ev_for {mi : M (List FL.D)} {g : FL.D → M Unit} {b : M Fl} {ds : List FL.D} {r : Res Fl} (h1 : mi ρ = .ok ds ρ1) (h2 : forM g b ds ρ1 = r) : forS mi g b ρ = r := by
  show (mi ρ).bind _ = _
  rw [h1]
  exact h2
theorem while_yes {t : M Bool} {b : M Fl} {n : Nat} (h1 : t ρ = .ok true ρ1) (h2 : b ρ1 = .ok .nx ρ2) : whileM t b (n + 1) ρ = whileM t b n ρ2 := by
  show (t ρ).bind _ = _
  rw [h1]
  show (b ρ1).loop _ = _
  rw [h2]
  rfl
theorem while_no {t : M Bool} {b : M Fl} {n : Nat} (h1 : t ρ = .ok false ρ1) : whileM t b (n + 1) ρ = .ok .nx ρ1 := by
  show (t ρ).bind _ = _
  rw [h1]
  rfl
/-- a call that hands on one own object ahead of one plain value -/
theorem ev_callO {i : Nat} {n : M A} {P P' : FL.D} (h1 : slotA i ρ = .ok (.ref i) ρ) (hi : ρ[i]? = some (some (.own P))) (h2 : n ρ = .ok (.val b) ρ) (hf : F [.own P, .d b] = .ok w [.own P', .d .non]) :
    callM F (consA (slotA i) (consA n nilA)) ρ = .ok w (ρ.set i (some (.own P'))) := by
  show ((slotA i ρ).bind _).bind _ = _
  rw [h1]
  show (((n ρ).bind _).bind _).bind _ = _
  rw [h2]
  have e : argsOf ρ [.ref i, .val b] = some [.own P, .d b] := by
    show (match (A.ref i).arg ρ, argsOf ρ [.val b] with
      | some w, some ws => some (w :: ws)
      | _, _ => none) = _
    have e1 : (A.ref i).arg ρ = some (.own P) := by
      show (match ρ[i]? with
        | some (some w) => some w
        | _ => none) = _
      rw [hi]
    rw [e1]
    rfl
  show (match argsOf ρ [.ref i, .val b] with
    | some ws => if onceB (refsOf [.ref i, .val b] ws) = true then
        match F ws with
        | .ok w outs => .ok w (setOuts [.ref i, .val b] outs ρ)
        | .exc c fs outs => .exc c fs (setOuts [.ref i, .val b] outs ρ)
        | .bad => .bad
      else .bad
    | none => .bad : Res W) = _
  rw [e]
  show (if onceB (refsOf [.ref i, .val b] [.own P, .d b]) = true then _ else _) = _
  rw [if_pos (by rfl)]
  show (match F [.own P, .d b] with
        | .ok w outs => .ok w (setOuts [.ref i, .val b] outs ρ)
        | .exc c fs outs => .exc c fs (setOuts [.ref i, .val b] outs ρ)
        | .bad => .bad : Res W) = _
  rw [hf]
  rfl
end
/-- statements in a row -/
def seqs : List (M Fl) → M Fl → M Fl
  | [], r => r
  | s :: l, r => seqM s (seqs l r)
theorem seqs_go {r : M Fl} {ρ' : Rho} : ∀ {l : List (M Fl)} {ρ : Rho}, seqs l nextM ρ = .ok .nx ρ' → seqs l r ρ = r ρ'
  | [], ρ, h => by
    have e : Res.ok Fl.nx ρ = Res.ok Fl.nx ρ' := h
    cases e
    rfl
  | s :: l, ρ, h => by
    have h' : (s ρ).flow (seqs l nextM) = .ok .nx ρ' := h
    show (s ρ).flow (seqs l r) = r ρ'
    cases e : s ρ with
    | bad => rw [e] at h'; cases h'
    | exc c fs ρ1 => rw [e] at h'; cases h'
    | ok f ρ1 =>
      rw [e] at h'
      cases f with
      | nx => exact seqs_go (l := l) (ρ := ρ1) h'
      | brk => cases h'
      | cont => cases h'
      | ret w => cases h'
end FL
set_option Elab.async false
set_option linter.all false
set_option maxRecDepth 100000
set_option maxHeartbeats 0
namespace FL
namespace K21
open PySem PySem.Spec L2
open PyProof.Rows hiding St
abbrev recN : Nat := 8
def top (i : Nat) : Stmt := PySem.Challenge.pw_ownhalves_k21_roots_of_one_doubled.main.body.getD i (.Pass ⟨0, 0, 0, 0⟩)
def m_is_whole : M Fl := (seqM (retM (andM (bcM isiW (consA (slotA 0) (consA (datA (constM (.ty "int"))) nilA))) (notM (datA (bcM isiW (consA (slotA 0) (consA (datA (constM (.ty "bool"))) nilA))))))) nextM)
def c_is_whole : Sc := ⟨["value"], defScope (top 7), [], true, [("isinstance", .bB "isinstance"), ("int", .bT "int"), ("bool", .bT "bool")], 1000000⟩
def F_is_whole : FnSem := fnM 1 [false] m_is_whole
theorem e_is_whole : rd c_is_whole (defBody (top 7)) = m_is_whole := by kernel_rfl
theorem s_is_whole : FnScope ["value"] ["value"] (defScope (top 7)) := ⟨rfl, rfl, rfl, by decide +kernel, rfl, by decide +kernel, by decide +kernel⟩
def m_in_tuples (F_r : FnSem) : M Fl := (seqM (ifS (notB (testM (datA (bcM isiW (consA (slotA 0) (consA (datA (tupM (consL (constM (.ty "tuple")) (consL (constM (.ty "list")) nilL)))) nilA)))))) (seqM (retS [] 0) nextM) nextM) (seqM (retM (bcM tupleW (consA (datA (lcM (iterM (slotM 0)) (nameG [0] 1) yesM (callM F_r (consA (datA (slotM 1)) nilA)) [1])) nilA))) nextM))
def c_in_tuples (F_r : FnSem) : Sc := ⟨["value", "item"], defScope (top 8), [], true, [("tuple", .bT "tuple"), ("in_tuples", .fn F_r [false]), ("isinstance", .bB "isinstance"), ("list", .bT "list")], 1000000⟩
def F_in_tuples : Nat → FnSem
  | 0 => fun _ => .bad
  | n + 1 => fnM 2 [false] (m_in_tuples (F_in_tuples n))
theorem e_in_tuples (F_r : FnSem) : rd (c_in_tuples F_r) (defBody (top 8)) = m_in_tuples F_r := by kernel_rfl
theorem s_in_tuples : FnScope ["value", "item"] ["value"] (defScope (top 8)) := ⟨rfl, rfl, rfl, by decide +kernel, rfl, by decide +kernel, by decide +kernel⟩
def m_need_between : M Fl := (seqM (ifS (notB (testM (datA (callM F_is_whole (consA (datA (slotM 1)) nilA))))) (seqM badM nextM) nextM) (seqM (ifS (orB (andB (boolM (cmpM .IsNot (slotA 2) (datA (constM .non)))) (boolM (cmpM .Lt (slotA 1) (slotA 2)))) (andB (boolM (cmpM .IsNot (slotA 3) (datA (constM .non)))) (boolM (cmpM .Gt (slotA 1) (slotA 3))))) (seqM badM nextM) nextM) nextM))
def c_need_between : Sc := ⟨["what", "number", "low", "high"], defScope (top 9), [], true, [("is_whole", .fn F_is_whole [false])], 1000000⟩
def F_need_between : FnSem := fnM 4 [false, false, false, false] m_need_between
theorem e_need_between : rd c_need_between (defBody (top 9)) = m_need_between := by kernel_rfl
theorem s_need_between : FnScope ["what", "number", "low", "high"] ["what", "number", "low", "high"] (defScope (top 9)) := ⟨rfl, rfl, rfl, by decide +kernel, rfl, by decide +kernel, by decide +kernel⟩
def m_is_pair : M Fl := (seqM (ifS (orB (notB (testM (datA (bcM isiW (consA (slotA 0) (consA (datA (tupM (consL (constM (.ty "tuple")) (consL (constM (.ty "list")) nilL)))) nilA)))))) (boolM (cmpM .NotEq (datA (bcM lenW (consA (slotA 0) nilA))) (datA (constM (.int (2))))))) (seqM (retM (constM (.bl false))) nextM) nextM) (seqM (retM (andM (callM F_is_whole (consA (datA (ixM (slotA 0) (datA (constM (.int (0)))))) nilA)) (andM (callM F_is_whole (consA (datA (ixM (slotA 0) (datA (constM (.int (1)))))) nilA)) (cmpM .Gt (datA (ixM (slotA 0) (datA (constM (.int (1)))))) (datA (constM (.int (0)))))))) nextM))
def c_is_pair : Sc := ⟨["value"], defScope (top 11), [], true, [("is_whole", .fn F_is_whole [false]), ("isinstance", .bB "isinstance"), ("list", .bT "list"), ("tuple", .bT "tuple"), ("len", .bB "len")], 1000000⟩
def F_is_pair : FnSem := fnM 1 [false] m_is_pair
theorem e_is_pair : rd c_is_pair (defBody (top 11)) = m_is_pair := by kernel_rfl
theorem s_is_pair : FnScope ["value"] ["value"] (defScope (top 11)) := ⟨rfl, rfl, rfl, by decide +kernel, rfl, by decide +kernel, by decide +kernel⟩
def m_is_ratio : M Fl := (seqM (retM (orM (callM F_is_whole (consA (datA (slotM 0)) nilA)) (andM (bcM isiW (consA (slotA 0) (consA (datA (constM (.ty "tuple"))) nilA))) (callM F_is_pair (consA (datA (slotM 0)) nilA))))) nextM)
def c_is_ratio : Sc := ⟨["value"], defScope (top 12), [], true, [("is_whole", .fn F_is_whole [false]), ("isinstance", .bB "isinstance"), ("tuple", .bT "tuple"), ("is_pair", .fn F_is_pair [false])], 1000000⟩
def F_is_ratio : FnSem := fnM 1 [false] m_is_ratio
theorem e_is_ratio : rd c_is_ratio (defBody (top 12)) = m_is_ratio := by kernel_rfl
theorem s_is_ratio : FnScope ["value"] ["value"] (defScope (top 12)) := ⟨rfl, rfl, rfl, by decide +kernel, rfl, by decide +kernel, by decide +kernel⟩
def m_lowest : M Fl := (seqM (setM [] 2 (ifM (boolM (cmpM .Gt (slotA 1) (datA (constM (.int (0)))))) (bcM gcdW (consA (slotA 0) (consA (slotA 1) nilA))) (negM (datA (bcM gcdW (consA (slotA 0) (consA (slotA 1) nilA))))))) (seqM (retM (tupM (consL (binM .FloorDiv (slotA 0) (slotA 2)) (consL (binM .FloorDiv (slotA 1) (slotA 2)) nilL)))) nextM))
def c_lowest : Sc := ⟨["top", "bottom", "by"], defScope (top 13), [], true, [("gcd", .gF "math.gcd")], 1000000⟩
def F_lowest : FnSem := fnM 3 [false, false] m_lowest
theorem e_lowest : rd c_lowest (defBody (top 13)) = m_lowest := by kernel_rfl
theorem s_lowest : FnScope ["top", "bottom", "by"] ["top", "bottom"] (defScope (top 13)) := ⟨rfl, rfl, rfl, by decide +kernel, rfl, by decide +kernel, by decide +kernel⟩
def m_told : M Fl := (seqM (ifS (testM (datA (callM F_is_whole (consA (datA (slotM 0)) nilA)))) (seqM (retM (tupM (consL (slotM 0) (consL (constM (.int (1))) nilL)))) nextM) nextM) (seqM (ifS (notB (testM (datA (callM F_is_pair (consA (datA (slotM 0)) nilA))))) (seqM badM nextM) nextM) (seqM (retM (callM F_lowest (consA (datA (ixM (slotA 0) (datA (constM (.int (0)))))) (consA (datA (ixM (slotA 0) (datA (constM (.int (1)))))) nilA)))) nextM)))
def c_told : Sc := ⟨["ratio"], defScope (top 14), [], true, [("lowest", .fn F_lowest [false, false]), ("is_pair", .fn F_is_pair [false]), ("is_whole", .fn F_is_whole [false])], 1000000⟩
def F_told : FnSem := fnM 1 [false] m_told
theorem e_told : rd c_told (defBody (top 14)) = m_told := by kernel_rfl
theorem s_told : FnScope ["ratio"] ["ratio"] (defScope (top 14)) := ⟨rfl, rfl, rfl, by decide +kernel, rfl, by decide +kernel, by decide +kernel⟩
def m_summed : M Fl := (seqM (retM (callM F_lowest (consA (datA (binM .Add (datA (binM .Mult (datA (ixM (slotA 0) (datA (constM (.int (0)))))) (datA (ixM (slotA 1) (datA (constM (.int (1)))))))) (datA (binM .Mult (datA (ixM (slotA 1) (datA (constM (.int (0)))))) (datA (ixM (slotA 0) (datA (constM (.int (1)))))))))) (consA (datA (binM .Mult (datA (ixM (slotA 0) (datA (constM (.int (1)))))) (datA (ixM (slotA 1) (datA (constM (.int (1)))))))) nilA)))) nextM)
def c_summed : Sc := ⟨["one", "other"], defScope (top 15), [], true, [("lowest", .fn F_lowest [false, false])], 1000000⟩
def F_summed : FnSem := fnM 2 [false, false] m_summed
theorem e_summed : rd c_summed (defBody (top 15)) = m_summed := by kernel_rfl
theorem s_summed : FnScope ["one", "other"] ["one", "other"] (defScope (top 15)) := ⟨rfl, rfl, rfl, by decide +kernel, rfl, by decide +kernel, by decide +kernel⟩
def m_lessened : M Fl := (seqM (retM (callM F_lowest (consA (datA (binM .Sub (datA (binM .Mult (datA (ixM (slotA 0) (datA (constM (.int (0)))))) (datA (ixM (slotA 1) (datA (constM (.int (1)))))))) (datA (binM .Mult (datA (ixM (slotA 1) (datA (constM (.int (0)))))) (datA (ixM (slotA 0) (datA (constM (.int (1)))))))))) (consA (datA (binM .Mult (datA (ixM (slotA 0) (datA (constM (.int (1)))))) (datA (ixM (slotA 1) (datA (constM (.int (1)))))))) nilA)))) nextM)
def c_lessened : Sc := ⟨["one", "other"], defScope (top 16), [], true, [("lowest", .fn F_lowest [false, false])], 1000000⟩
def F_lessened : FnSem := fnM 2 [false, false] m_lessened
theorem e_lessened : rd c_lessened (defBody (top 16)) = m_lessened := by kernel_rfl
theorem s_lessened : FnScope ["one", "other"] ["one", "other"] (defScope (top 16)) := ⟨rfl, rfl, rfl, by decide +kernel, rfl, by decide +kernel, by decide +kernel⟩
def m_scaled : M Fl := (seqM (retM (callM F_lowest (consA (datA (binM .Mult (datA (ixM (slotA 0) (datA (constM (.int (0)))))) (datA (ixM (slotA 1) (datA (constM (.int (0)))))))) (consA (datA (binM .Mult (datA (ixM (slotA 0) (datA (constM (.int (1)))))) (datA (ixM (slotA 1) (datA (constM (.int (1)))))))) nilA)))) nextM)
def c_scaled : Sc := ⟨["one", "other"], defScope (top 17), [], true, [("lowest", .fn F_lowest [false, false])], 1000000⟩
def F_scaled : FnSem := fnM 2 [false, false] m_scaled
theorem e_scaled : rd c_scaled (defBody (top 17)) = m_scaled := by kernel_rfl
theorem s_scaled : FnScope ["one", "other"] ["one", "other"] (defScope (top 17)) := ⟨rfl, rfl, rfl, by decide +kernel, rfl, by decide +kernel, by decide +kernel⟩
def m_parted : M Fl := (seqM (retM (callM F_lowest (consA (datA (binM .Mult (datA (ixM (slotA 0) (datA (constM (.int (0)))))) (datA (ixM (slotA 1) (datA (constM (.int (1)))))))) (consA (datA (binM .Mult (datA (ixM (slotA 0) (datA (constM (.int (1)))))) (datA (ixM (slotA 1) (datA (constM (.int (0)))))))) nilA)))) nextM)
def c_parted : Sc := ⟨["one", "other"], defScope (top 18), [], true, [("lowest", .fn F_lowest [false, false])], 1000000⟩
def F_parted : FnSem := fnM 2 [false, false] m_parted
theorem e_parted : rd c_parted (defBody (top 18)) = m_parted := by kernel_rfl
theorem s_parted : FnScope ["one", "other"] ["one", "other"] (defScope (top 18)) := ⟨rfl, rfl, rfl, by decide +kernel, rfl, by decide +kernel, by decide +kernel⟩
def m_turned_sign : M Fl := (seqM (retM (tupM (consL (negM (datA (ixM (slotA 0) (datA (constM (.int (0))))))) (consL (ixM (slotA 0) (datA (constM (.int (1))))) nilL)))) nextM)
def c_turned_sign : Sc := ⟨["one"], defScope (top 19), [], true, [], 1000000⟩
def F_turned_sign : FnSem := fnM 1 [false] m_turned_sign
theorem e_turned_sign : rd c_turned_sign (defBody (top 19)) = m_turned_sign := by kernel_rfl
theorem s_turned_sign : FnScope ["one"] ["one"] (defScope (top 19)) := ⟨rfl, rfl, rfl, by decide +kernel, rfl, by decide +kernel, by decide +kernel⟩
def m_trimmed : M Fl := (seqM (setM [] 1 (bcM listW (consA (slotA 0) nilA))) (seqM (whileM (andB (boolM (cmpM .Gt (datA (bcM lenW (consA (slotA 1) nilA))) (datA (constM (.int (0)))))) (boolM (cmpM .Eq (datA (ixM (datA (ixM (slotA 1) (datA (negM (datA (constM (.int (1)))))))) (datA (constM (.int (0)))))) (datA (constM (.int (0))))))) (seqM (dropM (popM 1)) nextM) 1000000) (seqM (retM (bcM tupleW (consA (slotA 1) nilA))) nextM)))
def c_trimmed : Sc := ⟨["row", "out"], defScope (top 23), [], true, [("tuple", .bT "tuple"), ("len", .bB "len"), ("list", .bT "list")], 1000000⟩
def F_trimmed : FnSem := fnM 2 [false] m_trimmed
theorem e_trimmed : rd c_trimmed (defBody (top 23)) = m_trimmed := by kernel_rfl
theorem s_trimmed : FnScope ["row", "out"] ["row"] (defScope (top 23)) := ⟨rfl, rfl, rfl, by decide +kernel, rfl, by decide +kernel, by decide +kernel⟩
def m_row_product__0 : M Fl := (seqM (ifS (orB (boolM (cmpM .Eq (datA (bcM lenW (consA (slotA 0) nilA))) (datA (constM (.int (0)))))) (boolM (cmpM .Eq (datA (bcM lenW (consA (slotA 1) nilA))) (datA (constM (.int (0))))))) (seqM (retM (tupM nilL)) nextM) nextM) (seqM (setM [] 2 (binM .Mult (datA (lstM (consL (constM (.tup [(.int (0)), (.int (1))])) nilL))) (datA (binM .Sub (datA (binM .Add (datA (bcM lenW (consA (slotA 0) nilA))) (datA (bcM lenW (consA (slotA 1) nilA))))) (datA (constM (.int (1)))))))) (seqM (forS (iterL enumD (consL (slotM 0) nilL)) (tupG 2 (consG (nameG [] 3) (consG (nameG [] 4) nilG))) (seqM (forS (iterL enumD (consL (slotM 1) nilL)) (tupG 2 (consG (nameG [] 5) (consG (nameG [] 6) nilG))) (seqM (setSubM 2 (callM F_summed (consA (datA (ixM (slotA 2) (datA (binM .Add (slotA 3) (slotA 5))))) (consA (datA (callM F_scaled (consA (datA (slotM 4)) (consA (datA (slotM 6)) nilA)))) nilA))) (datA (binM .Add (slotA 3) (slotA 5)))) nextM)) nextM)) (seqM (retM (callM F_trimmed (consA (datA (slotM 2)) nilA))) nextM))))
def c_row_product__0 : Sc := ⟨["one", "other", "out", "i", "item", "j", "by"], defScope (top 24), [], true, [("trimmed", .fn F_trimmed [false]), ("enumerate", .bT "enumerate"), ("summed", .fn F_summed [false, false]), ("scaled", .fn F_scaled [false, false]), ("NONE", .con (.tup [(.int (0)), (.int (1))])), ("len", .bB "len")], 1000000⟩
def F_row_product__0 : FnSem := fnM 7 [false, false] m_row_product__0
theorem e_row_product__0 : rd c_row_product__0 (defBody (top 24)) = m_row_product__0 := by kernel_rfl
theorem s_row_product__0 : FnScope ["one", "other", "out", "i", "item", "j", "by"] ["one", "other"] (defScope (top 24)) := ⟨rfl, rfl, rfl, by decide +kernel, rfl, by decide +kernel, by decide +kernel⟩
def m_row_scaled : M Fl := (seqM (retM (callM F_trimmed (consA (datA (lcM (iterM (slotM 1)) (nameG [0, 1] 2) yesM (callM F_scaled (consA (datA (slotM 0)) (consA (datA (slotM 2)) nilA))) [2])) nilA))) nextM)
def c_row_scaled : Sc := ⟨["by", "row", "item"], defScope (top 26), [], true, [("trimmed", .fn F_trimmed [false]), ("scaled", .fn F_scaled [false, false])], 1000000⟩
def F_row_scaled : FnSem := fnM 3 [false, false] m_row_scaled
theorem e_row_scaled : rd c_row_scaled (defBody (top 26)) = m_row_scaled := by kernel_rfl
theorem s_row_scaled : FnScope ["by", "row", "item"] ["by", "row"] (defScope (top 26)) := ⟨rfl, rfl, rfl, by decide +kernel, rfl, by decide +kernel, by decide +kernel⟩
def m_parts_of : M Fl := (seqM (retM (tupM (consL (callM F_trimmed (consA (datA (slSM (slotA 0) noPart noPart (partM (constM (.int (2)))))) nilA)) (consL (callM F_trimmed (consA (datA (slSM (slotA 0) (partM (constM (.int (1)))) noPart (partM (constM (.int (2)))))) nilA)) nilL)))) nextM)
def c_parts_of : Sc := ⟨["mask"], defScope (top 27), [], true, [("trimmed", .fn F_trimmed [false])], 1000000⟩
def F_parts_of : FnSem := fnM 1 [false] m_parts_of
theorem e_parts_of : rd c_parts_of (defBody (top 27)) = m_parts_of := by kernel_rfl
theorem s_parts_of : FnScope ["mask"] ["mask"] (defScope (top 27)) := ⟨rfl, rfl, rfl, by decide +kernel, rfl, by decide +kernel, by decide +kernel⟩
def m_rest_of : M Fl := (seqM (setM [] 2 (bcM listW (consA (slotA 0) nilA))) (seqM (whileM (boolM (cmpM .GtE (datA (bcM lenW (consA (slotA 2) nilA))) (datA (bcM lenW (consA (slotA 1) nilA))))) (seqM (setM [] 3 (callM F_parted (consA (datA (ixM (slotA 2) (datA (negM (datA (constM (.int (1)))))))) (consA (datA (ixM (slotA 1) (datA (negM (datA (constM (.int (1)))))))) nilA)))) (seqM (setM [] 4 (binM .Sub (datA (bcM lenW (consA (slotA 2) nilA))) (datA (bcM lenW (consA (slotA 1) nilA))))) (seqM (forS (iterL enumD (consL (slotM 1) nilL)) (tupG 2 (consG (nameG [] 5) (consG (nameG [] 6) nilG))) (seqM (setSubM 2 (callM F_lessened (consA (datA (ixM (slotA 2) (datA (binM .Add (slotA 4) (slotA 5))))) (consA (datA (callM F_scaled (consA (datA (slotM 3)) (consA (datA (slotM 6)) nilA)))) nilA))) (datA (binM .Add (slotA 4) (slotA 5)))) nextM)) (seqM (dropM (popM 2)) (seqM (setM [] 2 (bcM listW (consA (datA (callM F_trimmed (consA (datA (slotM 2)) nilA))) nilA))) nextM))))) 1000000) (seqM (retM (bcM tupleW (consA (slotA 2) nilA))) nextM)))
def c_rest_of : Sc := ⟨["one", "other", "out", "by", "lead", "k", "item"], defScope (top 28), [], true, [("tuple", .bT "tuple"), ("len", .bB "len"), ("list", .bT "list"), ("trimmed", .fn F_trimmed [false]), ("enumerate", .bT "enumerate"), ("lessened", .fn F_lessened [false, false]), ("scaled", .fn F_scaled [false, false]), ("parted", .fn F_parted [false, false])], 1000000⟩
def F_rest_of : FnSem := fnM 7 [false, false] m_rest_of
theorem e_rest_of : rd c_rest_of (defBody (top 28)) = m_rest_of := by kernel_rfl
theorem s_rest_of : FnScope ["one", "other", "out", "by", "lead", "k", "item"] ["one", "other"] (defScope (top 28)) := ⟨rfl, rfl, rfl, by decide +kernel, rfl, by decide +kernel, by decide +kernel⟩
def m_common_of : M Fl := (seqM (whileM (boolM (cmpM .Gt (datA (bcM lenW (consA (slotA 1) nilA))) (datA (constM (.int (0)))))) (seqM (parM [] 0 1 (slotM 1) (callM F_rest_of (consA (datA (slotM 0)) (consA (datA (slotM 1)) nilA)))) nextM) 1000000) (seqM (retM (ifM (boolM (cmpM .Gt (datA (bcM lenW (consA (slotA 0) nilA))) (datA (constM (.int (0)))))) (callM F_row_scaled (consA (datA (callM F_parted (consA (datA (constM (.tup [(.int (1)), (.int (1))]))) (consA (datA (ixM (slotA 0) (datA (negM (datA (constM (.int (1)))))))) nilA)))) (consA (datA (slotM 0)) nilA))) (tupM nilL))) nextM))
def c_common_of : Sc := ⟨["one", "other"], defScope (top 29), [], true, [("len", .bB "len"), ("row_scaled", .fn F_row_scaled [false, false]), ("parted", .fn F_parted [false, false]), ("ONE", .con (.tup [(.int (1)), (.int (1))])), ("rest_of", .fn F_rest_of [false, false])], 1000000⟩
def F_common_of : FnSem := fnM 2 [false, false] m_common_of
theorem e_common_of : rd c_common_of (defBody (top 29)) = m_common_of := by kernel_rfl
theorem s_common_of : FnScope ["one", "other"] ["one", "other"] (defScope (top 29)) := ⟨rfl, rfl, rfl, by decide +kernel, rfl, by decide +kernel, by decide +kernel⟩
def m_opposite : M Fl := (seqM (retM (bcM tupleW (consA (datA (lcM (iterL enumD (consL (slotM 0) nilL)) (tupG 2 (consG (nameG [0] 1) (consG (nameG [0] 2) nilG))) yesM (ifM (boolM (cmpM .Eq (datA (binM .Mod (slotA 1) (datA (constM (.int (2)))))) (datA (constM (.int (0)))))) (slotM 2) (callM F_turned_sign (consA (datA (slotM 2)) nilA))) [1, 2])) nilA))) nextM)
def c_opposite : Sc := ⟨["row", "k", "item"], defScope (top 30), [], true, [("tuple", .bT "tuple"), ("enumerate", .bT "enumerate"), ("turned_sign", .fn F_turned_sign [false])], 1000000⟩
def F_opposite : FnSem := fnM 3 [false] m_opposite
theorem e_opposite : rd c_opposite (defBody (top 30)) = m_opposite := by kernel_rfl
theorem s_opposite : FnScope ["row", "k", "item"] ["row"] (defScope (top 30)) := ⟨rfl, rfl, rfl, by decide +kernel, rfl, by decide +kernel, by decide +kernel⟩
def m_row_passed : M Fl := (seqM (setM [] 1 (callM (F_in_tuples recN) (consA (datA (slotM 0)) nilA))) (seqM (ifS (orB (notB (testM (datA (bcM isiW (consA (slotA 1) (consA (datA (constM (.ty "tuple"))) nilA)))))) (notB (testM (datA (bcM allW (consA (datA (lcM (iterM (slotM 1)) (nameG [0, 1] 2) yesM (callM F_is_ratio (consA (datA (slotM 2)) nilA)) [2])) nilA)))))) (seqM badM nextM) nextM) (seqM (retM (callM F_trimmed (consA (datA (lcM (iterM (slotM 1)) (nameG [0, 1] 2) yesM (callM F_told (consA (datA (slotM 2)) nilA)) [2])) nilA))) nextM)))
def c_row_passed : Sc := ⟨["row", "made", "item"], defScope (top 34), [], true, [("trimmed", .fn F_trimmed [false]), ("told", .fn F_told [false]), ("isinstance", .bB "isinstance"), ("tuple", .bT "tuple"), ("all", .bB "all"), ("is_ratio", .fn F_is_ratio [false]), ("in_tuples", .fn (F_in_tuples recN) [false])], 1000000⟩
def F_row_passed : FnSem := fnM 3 [false] m_row_passed
theorem e_row_passed : rd c_row_passed (defBody (top 34)) = m_row_passed := by kernel_rfl
theorem s_row_passed : FnScope ["row", "made", "item"] ["row"] (defScope (top 34)) := ⟨rfl, rfl, rfl, by decide +kernel, rfl, by decide +kernel, by decide +kernel⟩
def m_row_sum_by : M Fl := (seqM (asgM (tupG 2 (consG (nameG [] 2) (consG (nameG [] 3) nilG))) (ifM (boolM (cmpM .GtE (datA (bcM lenW (consA (slotA 0) nilA))) (datA (bcM lenW (consA (slotA 1) nilA))))) (tupM (consL (slotM 0) (consL (slotM 1) nilL))) (tupM (consL (slotM 1) (consL (slotM 0) nilL))))) (seqM (setM [] 4 (lcM (iterL zipD (consL (slotM 2) (consL (slotM 3) nilL))) (tupG 2 (consG (nameG [0, 1, 2, 3, 4] 5) (consG (nameG [0, 1, 2, 3, 4] 6) nilG))) yesM (callM F_summed (consA (datA (slotM 5)) (consA (datA (slotM 6)) nilA))) [5, 6])) (seqM (retM (callM F_trimmed (consA (datA (binM .Add (slotA 4) (datA (bcM listW (consA (datA (slM (slotA 2) (partM (bcM lenW (consA (slotA 3) nilA))) noPart)) nilA))))) nilA))) nextM)))
def c_row_sum_by : Sc := ⟨["one", "other", "long", "short", "ends", "a", "b"], defScope (top 35), [], true, [("trimmed", .fn F_trimmed [false]), ("list", .bT "list"), ("len", .bB "len"), ("zip", .bT "zip"), ("summed", .fn F_summed [false, false])], 1000000⟩
def F_row_sum_by : FnSem := fnM 7 [false, false] m_row_sum_by
theorem e_row_sum_by : rd c_row_sum_by (defBody (top 35)) = m_row_sum_by := by kernel_rfl
theorem s_row_sum_by : FnScope ["one", "other", "long", "short", "ends", "a", "b"] ["one", "other"] (defScope (top 35)) := ⟨rfl, rfl, rfl, by decide +kernel, rfl, by decide +kernel, by decide +kernel⟩
def m_behind_by : M Fl := (seqM (retM (ifM (boolM (cmpM .Gt (datA (bcM lenW (consA (slotA 0) nilA))) (datA (constM (.int (0)))))) (binM .Add (datA (binM .Mult (datA (tupM (consL (constM (.tup [(.int (0)), (.int (1))])) nilL))) (slotA 1))) (slotA 0)) (tupM nilL))) nextM)
def c_behind_by : Sc := ⟨["row", "many"], defScope (top 36), [], true, [("len", .bB "len"), ("NONE", .con (.tup [(.int (0)), (.int (1))]))], 1000000⟩
def F_behind_by : FnSem := fnM 2 [false, false] m_behind_by
theorem e_behind_by : rd c_behind_by (defBody (top 36)) = m_behind_by := by kernel_rfl
theorem s_behind_by : FnScope ["row", "many"] ["row", "many"] (defScope (top 36)) := ⟨rfl, rfl, rfl, by decide +kernel, rfl, by decide +kernel, by decide +kernel⟩
def m_stretched_by : M Fl := (seqM (setM [] 2 (lstM nilL)) (seqM (forS (iterM (slotM 0)) (nameG [] 3) (seqM (setM [] 2 (binM .Add (datA (binM .Add (slotA 2) (datA (lstM (consL (slotM 3) nilL))))) (datA (binM .Mult (datA (lstM (consL (constM (.tup [(.int (0)), (.int (1))])) nilL))) (datA (binM .Sub (slotA 1) (datA (constM (.int (1)))))))))) nextM)) (seqM (retM (callM F_trimmed (consA (datA (slotM 2)) nilA))) nextM)))
def c_stretched_by : Sc := ⟨["row", "many", "out", "item"], defScope (top 37), [], true, [("trimmed", .fn F_trimmed [false]), ("NONE", .con (.tup [(.int (0)), (.int (1))]))], 1000000⟩
def F_stretched_by : FnSem := fnM 4 [false, false] m_stretched_by
theorem e_stretched_by : rd c_stretched_by (defBody (top 37)) = m_stretched_by := by kernel_rfl
theorem s_stretched_by : FnScope ["row", "many", "out", "item"] ["row", "many"] (defScope (top 37)) := ⟨rfl, rfl, rfl, by decide +kernel, rfl, by decide +kernel, by decide +kernel⟩
def m_row_sum : M Fl := (seqM (parM [] 2 3 (callM F_row_passed (consA (datA (slotM 0)) nilA)) (callM F_row_passed (consA (datA (slotM 1)) nilA))) (seqM (retM (callM F_row_sum_by (consA (datA (slotM 2)) (consA (datA (slotM 3)) nilA)))) nextM))
def c_row_sum : Sc := ⟨["one", "other", "first", "second"], defScope (top 38), [], true, [("row_sum_by", .fn F_row_sum_by [false, false]), ("row_passed", .fn F_row_passed [false])], 1000000⟩
def F_row_sum : FnSem := fnM 4 [false, false] m_row_sum
theorem e_row_sum : rd c_row_sum (defBody (top 38)) = m_row_sum := by kernel_rfl
theorem s_row_sum : FnScope ["one", "other", "first", "second"] ["one", "other"] (defScope (top 38)) := ⟨rfl, rfl, rfl, by decide +kernel, rfl, by decide +kernel, by decide +kernel⟩
def m_row_product : M Fl := (seqM (parM [] 2 3 (callM F_row_passed (consA (datA (slotM 0)) nilA)) (callM F_row_passed (consA (datA (slotM 1)) nilA))) (seqM (retM (callM F_row_product__0 (consA (datA (slotM 2)) (consA (datA (slotM 3)) nilA)))) nextM))
def c_row_product : Sc := ⟨["one", "other", "first", "second"], defScope (top 39), [], true, [("row_product_maskrows", .fn F_row_product__0 [false, false]), ("row_passed", .fn F_row_passed [false])], 1000000⟩
def F_row_product : FnSem := fnM 4 [false, false] m_row_product
theorem e_row_product : rd c_row_product (defBody (top 39)) = m_row_product := by kernel_rfl
theorem s_row_product : FnScope ["one", "other", "first", "second"] ["one", "other"] (defScope (top 39)) := ⟨rfl, rfl, rfl, by decide +kernel, rfl, by decide +kernel, by decide +kernel⟩
def m_row_behind : M Fl := (seqM (setM [] 2 (callM F_row_passed (consA (datA (slotM 0)) nilA))) (seqM (dropM (callM F_need_between (consA (datA (constM (.str "many"))) (consA (datA (slotM 1)) (consA (datA (constM (.int (0)))) (consA (datA (constM (.int (16)))) nilA)))))) (seqM (retM (callM F_behind_by (consA (datA (slotM 2)) (consA (datA (slotM 1)) nilA)))) nextM)))
def c_row_behind : Sc := ⟨["row", "many", "made"], defScope (top 41), [], true, [("behind_by", .fn F_behind_by [false, false]), ("need_between", .fn F_need_between [false, false, false, false]), ("MOST_BEHIND", .con (.int (16))), ("row_passed", .fn F_row_passed [false])], 1000000⟩
def F_row_behind : FnSem := fnM 3 [false, false] m_row_behind
theorem e_row_behind : rd c_row_behind (defBody (top 41)) = m_row_behind := by kernel_rfl
theorem s_row_behind : FnScope ["row", "many", "made"] ["row", "many"] (defScope (top 41)) := ⟨rfl, rfl, rfl, by decide +kernel, rfl, by decide +kernel, by decide +kernel⟩
def m_stretched : M Fl := (seqM (setM [] 2 (callM F_row_passed (consA (datA (slotM 0)) nilA))) (seqM (dropM (callM F_need_between (consA (datA (constM (.str "many"))) (consA (datA (slotM 1)) (consA (datA (constM (.int (1)))) (consA (datA (constM (.int (8)))) nilA)))))) (seqM (retM (callM F_stretched_by (consA (datA (slotM 2)) (consA (datA (slotM 1)) nilA)))) nextM)))
def c_stretched : Sc := ⟨["row", "many", "made"], defScope (top 42), [], true, [("stretched_by", .fn F_stretched_by [false, false]), ("need_between", .fn F_need_between [false, false, false, false]), ("MOST_STRETCHED", .con (.int (8))), ("row_passed", .fn F_row_passed [false])], 1000000⟩
def F_stretched : FnSem := fnM 3 [false, false] m_stretched
theorem e_stretched : rd c_stretched (defBody (top 42)) = m_stretched := by kernel_rfl
theorem s_stretched : FnScope ["row", "many", "made"] ["row", "many"] (defScope (top 42)) := ⟨rfl, rfl, rfl, by decide +kernel, rfl, by decide +kernel, by decide +kernel⟩
def m_signed : M Fl := (seqM (retM (callM F_opposite (consA (datA (callM F_row_passed (consA (datA (slotM 0)) nilA))) nilA))) nextM)
def c_signed : Sc := ⟨["row"], defScope (top 43), [], true, [("opposite", .fn F_opposite [false]), ("row_passed", .fn F_row_passed [false])], 1000000⟩
def F_signed : FnSem := fnM 1 [false] m_signed
theorem e_signed : rd c_signed (defBody (top 43)) = m_signed := by kernel_rfl
theorem s_signed : FnScope ["row"] ["row"] (defScope (top 43)) := ⟨rfl, rfl, rfl, by decide +kernel, rfl, by decide +kernel, by decide +kernel⟩
def m_back_row : M Fl := (seqM (retM (callM F_trimmed (consA (datA (slSM (datA (callM F_row_passed (consA (datA (slotM 0)) nilA))) noPart noPart (partM (negM (datA (constM (.int (1)))))))) nilA))) nextM)
def c_back_row : Sc := ⟨["row"], defScope (top 44), [], true, [("trimmed", .fn F_trimmed [false]), ("row_passed", .fn F_row_passed [false])], 1000000⟩
def F_back_row : FnSem := fnM 1 [false] m_back_row
theorem e_back_row : rd c_back_row (defBody (top 44)) = m_back_row := by kernel_rfl
theorem s_back_row : FnScope ["row"] ["row"] (defScope (top 44)) := ⟨rfl, rfl, rfl, by decide +kernel, rfl, by decide +kernel, by decide +kernel⟩
def m_shared_by : M Fl := (seqM (parM [] 2 3 (bcM listW (consA (slotA 0) nilA)) (binM .Mult (datA (lstM (consL (constM (.tup [(.int (0)), (.int (1))])) nilL))) (datA (bcM max2W (consA (datA (constM (.int (0)))) (consA (datA (binM .Add (datA (binM .Sub (datA (bcM lenW (consA (slotA 0) nilA))) (datA (bcM lenW (consA (slotA 1) nilA))))) (datA (constM (.int (1)))))) nilA)))))) (seqM (whileM (boolM (cmpM .GtE (datA (bcM lenW (consA (slotA 2) nilA))) (datA (bcM lenW (consA (slotA 1) nilA))))) (seqM (parM [] 4 5 (binM .Sub (datA (bcM lenW (consA (slotA 2) nilA))) (datA (bcM lenW (consA (slotA 1) nilA)))) (callM F_parted (consA (datA (ixM (slotA 2) (datA (negM (datA (constM (.int (1)))))))) (consA (datA (ixM (slotA 1) (datA (negM (datA (constM (.int (1)))))))) nilA)))) (seqM (setSubM 3 (slotM 5) (slotA 4)) (seqM (forS (iterL enumD (consL (slotM 1) nilL)) (tupG 2 (consG (nameG [] 6) (consG (nameG [] 7) nilG))) (seqM (setSubM 2 (callM F_lessened (consA (datA (ixM (slotA 2) (datA (binM .Add (slotA 4) (slotA 6))))) (consA (datA (callM F_scaled (consA (datA (slotM 5)) (consA (datA (slotM 7)) nilA)))) nilA))) (datA (binM .Add (slotA 4) (slotA 6)))) nextM)) (seqM (setM [] 2 (bcM listW (consA (datA (callM F_trimmed (consA (datA (slotM 2)) nilA))) nilA))) nextM)))) 1000000) (seqM (retM (tupM (consL (callM F_trimmed (consA (datA (slotM 3)) nilA)) (consL (bcM tupleW (consA (slotA 2) nilA)) nilL)))) nextM)))
def c_shared_by : Sc := ⟨["row", "by", "rest", "out", "lead", "many", "k", "item"], defScope (top 46), [], true, [("tuple", .bT "tuple"), ("trimmed", .fn F_trimmed [false]), ("len", .bB "len"), ("list", .bT "list"), ("enumerate", .bT "enumerate"), ("lessened", .fn F_lessened [false, false]), ("scaled", .fn F_scaled [false, false]), ("parted", .fn F_parted [false, false]), ("NONE", .con (.tup [(.int (0)), (.int (1))])), ("max", .bB "max")], 1000000⟩
def F_shared_by : FnSem := fnM 8 [false, false] m_shared_by
theorem e_shared_by : rd c_shared_by (defBody (top 46)) = m_shared_by := by kernel_rfl
theorem s_shared_by : FnScope ["row", "by", "rest", "out", "lead", "many", "k", "item"] ["row", "by"] (defScope (top 46)) := ⟨rfl, rfl, rfl, by decide +kernel, rfl, by decide +kernel, by decide +kernel⟩
def m_divides : M Fl := (seqM (retM (cmpM .Eq (datA (ixM (datA (callM F_shared_by (consA (datA (slotM 1)) (consA (datA (slotM 0)) nilA)))) (datA (constM (.int (1)))))) (datA (tupM nilL)))) nextM)
def c_divides : Sc := ⟨["by", "row"], defScope (top 47), [], true, [("shared_by", .fn F_shared_by [false, false])], 1000000⟩
def F_divides : FnSem := fnM 2 [false, false] m_divides
theorem e_divides : rd c_divides (defBody (top 47)) = m_divides := by kernel_rfl
theorem s_divides : FnScope ["by", "row"] ["by", "row"] (defScope (top 47)) := ⟨rfl, rfl, rfl, by decide +kernel, rfl, by decide +kernel, by decide +kernel⟩
def m_times_by : M Fl := (seqM (parM [] 2 3 (constM (.int (0))) (callM F_shared_by (consA (datA (slotM 0)) (consA (datA (slotM 1)) nilA)))) (seqM (whileM (boolM (cmpM .Eq (datA (ixM (slotA 3) (datA (constM (.int (1)))))) (datA (tupM nilL)))) (seqM (parM [] 2 3 (binM .Add (slotA 2) (datA (constM (.int (1))))) (callM F_shared_by (consA (datA (ixM (slotA 3) (datA (constM (.int (0)))))) (consA (datA (slotM 1)) nilA)))) nextM) 1000000) (seqM (retS [] 2) nextM)))
def c_times_by : Sc := ⟨["row", "by", "out", "rest"], defScope (top 48), [], true, [("shared_by", .fn F_shared_by [false, false])], 1000000⟩
def F_times_by : FnSem := fnM 4 [false, false] m_times_by
theorem e_times_by : rd c_times_by (defBody (top 48)) = m_times_by := by kernel_rfl
theorem s_times_by : FnScope ["row", "by", "out", "rest"] ["row", "by"] (defScope (top 48)) := ⟨rfl, rfl, rfl, by decide +kernel, rfl, by decide +kernel, by decide +kernel⟩
def m_shared_out : M Fl := (seqM (parM [] 2 3 (callM F_row_passed (consA (datA (slotM 0)) nilA)) (callM F_row_passed (consA (datA (slotM 1)) nilA))) (seqM (ifS (boolM (cmpM .Eq (slotA 3) (datA (tupM nilL)))) (seqM badM nextM) nextM) (seqM (retM (callM F_shared_by (consA (datA (slotM 2)) (consA (datA (slotM 3)) nilA)))) nextM)))
def c_shared_out : Sc := ⟨["row", "by", "first", "second"], defScope (top 49), [], true, [("shared_by", .fn F_shared_by [false, false]), ("row_passed", .fn F_row_passed [false])], 1000000⟩
def F_shared_out : FnSem := fnM 4 [false, false] m_shared_out
theorem e_shared_out : rd c_shared_out (defBody (top 49)) = m_shared_out := by kernel_rfl
theorem s_shared_out : FnScope ["row", "by", "first", "second"] ["row", "by"] (defScope (top 49)) := ⟨rfl, rfl, rfl, by decide +kernel, rfl, by decide +kernel, by decide +kernel⟩
def m_common : M Fl := (seqM (parM [] 2 3 (callM F_row_passed (consA (datA (slotM 0)) nilA)) (callM F_row_passed (consA (datA (slotM 1)) nilA))) (seqM (retM (callM F_common_of (consA (datA (slotM 2)) (consA (datA (slotM 3)) nilA)))) nextM))
def c_common : Sc := ⟨["one", "other", "first", "second"], defScope (top 50), [], true, [("common_of", .fn F_common_of [false, false]), ("row_passed", .fn F_row_passed [false])], 1000000⟩
def F_common : FnSem := fnM 4 [false, false] m_common
theorem e_common : rd c_common (defBody (top 50)) = m_common := by kernel_rfl
theorem s_common : FnScope ["one", "other", "first", "second"] ["one", "other"] (defScope (top 50)) := ⟨rfl, rfl, rfl, by decide +kernel, rfl, by decide +kernel, by decide +kernel⟩
def m_times_in : M Fl := (seqM (parM [] 2 3 (callM F_row_passed (consA (datA (slotM 0)) nilA)) (callM F_row_passed (consA (datA (slotM 1)) nilA))) (seqM (ifS (boolM (cmpM .Eq (slotA 2) (datA (tupM nilL)))) (seqM badM nextM) nextM) (seqM (ifS (boolM (cmpM .Lt (datA (bcM lenW (consA (slotA 3) nilA))) (datA (constM (.int (2)))))) (seqM badM nextM) nextM) (seqM (retM (callM F_times_by (consA (datA (slotM 2)) (consA (datA (slotM 3)) nilA)))) nextM))))
def c_times_in : Sc := ⟨["row", "by", "first", "second"], defScope (top 51), [], true, [("times_by", .fn F_times_by [false, false]), ("len", .bB "len"), ("row_passed", .fn F_row_passed [false])], 1000000⟩
def F_times_in : FnSem := fnM 4 [false, false] m_times_in
theorem e_times_in : rd c_times_in (defBody (top 51)) = m_times_in := by kernel_rfl
theorem s_times_in : FnScope ["row", "by", "first", "second"] ["row", "by"] (defScope (top 51)) := ⟨rfl, rfl, rfl, by decide +kernel, rfl, by decide +kernel, by decide +kernel⟩
def m_ring_by : M Fl := (seqM (asgM (tupG 4 (consG (nameG [] 1) (consG (nameG [] 2) (consG (nameG [] 3) (consG (nameG [] 4) nilG))))) (tupM (consL (tupM (consL (tupM (consL (negM (datA (constM (.int (1))))) (consL (constM (.int (1))) nilL))) (consL (constM (.tup [(.int (1)), (.int (1))])) nilL))) (consL (constM (.int (1))) (consL (slotM 0) (consL (constM (.int (2))) nilL)))))) (seqM (whileM (boolM (cmpM .Gt (slotA 3) (datA (constM (.int (1)))))) (seqM (ifS (boolM (cmpM .Gt (datA (binM .Mod (datA (bcM intW (consA (slotA 3) nilA))) (slotA 4))) (datA (constM (.int (0)))))) (seqM (setM [] 4 (binM .Add (slotA 4) (datA (constM (.int (1)))))) (seqM (fun ρ => .ok .cont ρ) nextM)) nextM) (seqM (setM [] 5 (callM F_stretched_by (consA (datA (slotM 1)) (consA (datA (slotM 4)) nilA)))) (seqM (setM [] 1 (ifM (boolM (cmpM .Eq (datA (binM .Mod (datA (bcM intW (consA (slotA 2) nilA))) (slotA 4))) (datA (constM (.int (0)))))) (slotM 5) (ixM (datA (callM F_shared_by (consA (datA (slotM 5)) (consA (datA (slotM 1)) nilA)))) (datA (constM (.int (0))))))) (seqM (parM [] 2 3 (binM .Mult (slotA 2) (slotA 4)) (binM .FloorDiv (slotA 3) (slotA 4))) nextM)))) 1000000) (seqM (retS [] 1) nextM)))
def c_ring_by : Sc := ⟨["number", "out", "done", "rest", "prime", "wide"], defScope (top 54), [], true, [("int", .bT "int"), ("shared_by", .fn F_shared_by [false, false]), ("stretched_by", .fn F_stretched_by [false, false]), ("ONE", .con (.tup [(.int (1)), (.int (1))]))], 1000000⟩
def F_ring_by : FnSem := fnM 6 [false] m_ring_by
theorem e_ring_by : rd c_ring_by (defBody (top 54)) = m_ring_by := by kernel_rfl
theorem s_ring_by : FnScope ["number", "out", "done", "rest", "prime", "wide"] ["number"] (defScope (top 54)) := ⟨rfl, rfl, rfl, by decide +kernel, rfl, by decide +kernel, by decide +kernel⟩
def m_ring_row : M Fl := (seqM (dropM (callM F_need_between (consA (datA (constM (.str "number"))) (consA (datA (slotM 0)) (consA (datA (constM (.int (1)))) (consA (datA (constM (.int (60)))) nilA)))))) (seqM (retM (callM F_ring_by (consA (datA (slotM 0)) nilA))) nextM))
def c_ring_row : Sc := ⟨["number"], defScope (top 55), [], true, [("ring_by", .fn F_ring_by [false]), ("need_between", .fn F_need_between [false, false, false, false]), ("MOST_RING", .con (.int (60)))], 1000000⟩
def F_ring_row : FnSem := fnM 1 [false] m_ring_row
theorem e_ring_row : rd c_ring_row (defBody (top 55)) = m_ring_row := by kernel_rfl
theorem s_ring_row : FnScope ["number"] ["number"] (defScope (top 55)) := ⟨rfl, rfl, rfl, by decide +kernel, rfl, by decide +kernel, by decide +kernel⟩
def m_rings_in : M Fl := (seqM (setM [] 1 (callM F_row_passed (consA (datA (slotM 0)) nilA))) (seqM (ifS (boolM (cmpM .Eq (slotA 1) (datA (tupM nilL)))) (seqM badM nextM) nextM) (seqM (setM [] 2 (lstM nilL)) (seqM (forS (iterL range2D (consL (constM (.int (1))) (consL (binM .Add (datA (constM (.int (60)))) (datA (constM (.int (1))))) nilL))) (nameG [] 3) (seqM (setM [] 4 (callM F_ring_by (consA (datA (slotM 3)) nilA))) (seqM (ifS (andB (boolM (cmpM .LtE (datA (bcM lenW (consA (slotA 4) nilA))) (datA (bcM lenW (consA (slotA 1) nilA))))) (testM (datA (callM F_divides (consA (datA (slotM 4)) (consA (datA (slotM 1)) nilA)))))) (seqM (dropM (appM 2 (tupM (consL (slotM 3) (consL (callM F_times_by (consA (datA (slotM 1)) (consA (datA (slotM 4)) nilA))) nilL))))) nextM) nextM) nextM))) (seqM (retM (bcM tupleW (consA (slotA 2) nilA))) nextM)))))
def c_rings_in : Sc := ⟨["row", "made", "out", "number", "ring"], defScope (top 56), [], true, [("tuple", .bT "tuple"), ("range", .bT "range"), ("MOST_RING", .con (.int (60))), ("len", .bB "len"), ("divides", .fn F_divides [false, false]), ("times_by", .fn F_times_by [false, false]), ("ring_by", .fn F_ring_by [false]), ("row_passed", .fn F_row_passed [false])], 1000000⟩
def F_rings_in : FnSem := fnM 5 [false] m_rings_in
theorem e_rings_in : rd c_rings_in (defBody (top 56)) = m_rings_in := by kernel_rfl
theorem s_rings_in : FnScope ["row", "made", "out", "number", "ring"] ["row"] (defScope (top 56)) := ⟨rfl, rfl, rfl, by decide +kernel, rfl, by decide +kernel, by decide +kernel⟩
def m_woven_by : M Fl := (seqM (setM [] 2 (bcM max2W (consA (datA (bcM lenW (consA (slotA 0) nilA))) (consA (datA (bcM lenW (consA (slotA 1) nilA))) nilA)))) (seqM (setM [] 3 (lcM (iterM (tupM (consL (slotM 0) (consL (slotM 1) nilL)))) (nameG [0, 1, 2, 3, 4, 5] 6) yesM (binM .Add (datA (bcM listW (consA (slotA 6) nilA))) (datA (binM .Mult (datA (lstM (consL (constM (.tup [(.int (0)), (.int (1))])) nilL))) (datA (binM .Sub (slotA 2) (datA (bcM lenW (consA (slotA 6) nilA)))))))) [6])) (seqM (setM [] 4 (lstM nilL)) (seqM (forS (iterL range1D (consL (slotM 2) nilL)) (nameG [] 5) (seqM (setM [] 4 (binM .Add (slotA 4) (datA (lstM (consL (ixM (datA (ixM (slotA 3) (datA (constM (.int (0)))))) (slotA 5)) (consL (ixM (datA (ixM (slotA 3) (datA (constM (.int (1)))))) (slotA 5)) nilL)))))) nextM)) (seqM (retM (callM F_trimmed (consA (datA (slotM 4)) nilA))) nextM)))))
def c_woven_by : Sc := ⟨["one", "other", "many", "ends", "out", "k", "row"], defScope (top 58), [], true, [("trimmed", .fn F_trimmed [false]), ("range", .bT "range"), ("list", .bT "list"), ("NONE", .con (.tup [(.int (0)), (.int (1))])), ("len", .bB "len"), ("max", .bB "max")], 1000000⟩
def F_woven_by : FnSem := fnM 7 [false, false] m_woven_by
theorem e_woven_by : rd c_woven_by (defBody (top 58)) = m_woven_by := by kernel_rfl
theorem s_woven_by : FnScope ["one", "other", "many", "ends", "out", "k", "row"] ["one", "other"] (defScope (top 58)) := ⟨rfl, rfl, rfl, by decide +kernel, rfl, by decide +kernel, by decide +kernel⟩
def m_even_half : M Fl := (seqM (retM (ixM (datA (callM F_parts_of (consA (datA (callM F_row_passed (consA (datA (slotM 0)) nilA))) nilA))) (datA (constM (.int (0)))))) nextM)
def c_even_half : Sc := ⟨["row"], defScope (top 59), [], true, [("parts_of", .fn F_parts_of [false]), ("row_passed", .fn F_row_passed [false])], 1000000⟩
def F_even_half : FnSem := fnM 1 [false] m_even_half
theorem e_even_half : rd c_even_half (defBody (top 59)) = m_even_half := by kernel_rfl
theorem s_even_half : FnScope ["row"] ["row"] (defScope (top 59)) := ⟨rfl, rfl, rfl, by decide +kernel, rfl, by decide +kernel, by decide +kernel⟩
def m_odd_half : M Fl := (seqM (retM (ixM (datA (callM F_parts_of (consA (datA (callM F_row_passed (consA (datA (slotM 0)) nilA))) nilA))) (datA (constM (.int (1)))))) nextM)
def c_odd_half : Sc := ⟨["row"], defScope (top 60), [], true, [("parts_of", .fn F_parts_of [false]), ("row_passed", .fn F_row_passed [false])], 1000000⟩
def F_odd_half : FnSem := fnM 1 [false] m_odd_half
theorem e_odd_half : rd c_odd_half (defBody (top 60)) = m_odd_half := by kernel_rfl
theorem s_odd_half : FnScope ["row"] ["row"] (defScope (top 60)) := ⟨rfl, rfl, rfl, by decide +kernel, rfl, by decide +kernel, by decide +kernel⟩
def m_woven : M Fl := (seqM (parM [] 2 3 (callM F_row_passed (consA (datA (slotM 0)) nilA)) (callM F_row_passed (consA (datA (slotM 1)) nilA))) (seqM (retM (callM F_woven_by (consA (datA (slotM 2)) (consA (datA (slotM 3)) nilA)))) nextM))
def c_woven : Sc := ⟨["one", "other", "first", "second"], defScope (top 61), [], true, [("woven_by", .fn F_woven_by [false, false]), ("row_passed", .fn F_row_passed [false])], 1000000⟩
def F_woven : FnSem := fnM 4 [false, false] m_woven
theorem e_woven : rd c_woven (defBody (top 61)) = m_woven := by kernel_rfl
theorem s_woven : FnScope ["one", "other", "first", "second"] ["one", "other"] (defScope (top 61)) := ⟨rfl, rfl, rfl, by decide +kernel, rfl, by decide +kernel, by decide +kernel⟩
def m_law_pen : M Fl := (seqM (setM [] 1 (constM (.int (0)))) (seqM (forS (iterM (slotM 0)) (nameG [] 2) (seqM (setM [] 1 (binM .Mod (datA (bcM intW (consA (datA (binM .Add (datA (binM .Mult (slotA 1) (datA (constM (.int (199)))))) (slotA 2))) nilA))) (datA (constM (.int (999998689)))))) nextM)) (seqM (retM (dictM [(.inr "cells", (bcM listW (consA (slotA 0) nilA))), (.inr "at", (constM (.int (0)))), (.inr "digits", (constM (.int (0)))), (.inr "count", (constM (.int (0)))), (.inr "fold", (slotM 1))])) nextM)))
def c_law_pen : Sc := ⟨["script", "fold", "cell"], defScope (top 63), [], true, [("list", .bT "list"), ("int", .bT "int")], 1000000⟩
def F_law_pen : FnSem := fnM 3 [false] m_law_pen
theorem e_law_pen : rd c_law_pen (defBody (top 63)) = m_law_pen := by kernel_rfl
theorem s_law_pen : FnScope ["script", "fold", "cell"] ["script"] (defScope (top 63)) := ⟨rfl, rfl, rfl, by decide +kernel, rfl, by decide +kernel, by decide +kernel⟩
def m_law_draw : M Fl := (seqM (setSubM 0 (binM .Add (datA (ixM (slotA 0) (datA (constM (.str "count"))))) (datA (constM (.int (1))))) (datA (constM (.str "count")))) (seqM (ifS (andB (boolM (cmpM .Eq (datA (ixM (slotA 0) (datA (constM (.str "digits"))))) (datA (constM (.int (0)))))) (boolM (cmpM .Lt (datA (ixM (slotA 0) (datA (constM (.str "at"))))) (datA (bcM lenW (consA (datA (ixM (slotA 0) (datA (constM (.str "cells"))))) nilA)))))) (seqM (setM [0] 2 (ixM (datA (ixM (slotA 0) (datA (constM (.str "cells"))))) (datA (ixM (slotA 0) (datA (constM (.str "at"))))))) (seqM (setSubM 0 (binM .Add (datA (ixM (slotA 0) (datA (constM (.str "at"))))) (datA (constM (.int (1))))) (datA (constM (.str "at")))) (seqM (ifS (boolM (cmpM .GtE (slotA 2) (datA (binM .Pow (datA (constM (.int (10)))) (datA (constM (.int (18)))))))) (seqM (setSubM 0 (binM .Sub (slotA 2) (datA (binM .Pow (datA (constM (.int (10)))) (datA (constM (.int (18))))))) (datA (constM (.str "digits")))) nextM) (seqM (setSubM 0 (binM .Mod (datA (bcM intW (consA (datA (binM .Add (datA (binM .Mult (datA (ixM (slotA 0) (datA (constM (.str "fold"))))) (datA (constM (.int (50021)))))) (slotA 2))) nilA))) (datA (constM (.int (2147482943))))) (datA (constM (.str "fold")))) nextM)) nextM))) nextM) (seqM (ifS (boolM (cmpM .Gt (datA (ixM (slotA 0) (datA (constM (.str "digits"))))) (datA (constM (.int (0)))))) (seqM (setM [0] 3 (binM .Mod (datA (bcM intW (consA (datA (ixM (slotA 0) (datA (constM (.str "digits"))))) nilA))) (slotA 1))) (seqM (setSubM 0 (binM .FloorDiv (datA (ixM (slotA 0) (datA (constM (.str "digits"))))) (slotA 1)) (datA (constM (.str "digits")))) (seqM (retS [0] 3) nextM))) nextM) (seqM (setM [0] 4 (binM .Add (datA (binM .Add (datA (ixM (slotA 0) (datA (constM (.str "fold"))))) (datA (binM .Mult (datA (ixM (slotA 0) (datA (constM (.str "count"))))) (datA (constM (.int (7507)))))))) (datA (constM (.int (239)))))) (seqM (retM (binM .Mod (datA (binM .FloorDiv (datA (bcM intW (consA (datA (binM .Mod (datA (binM .Pow (slotA 4) (datA (constM (.int (61)))))) (datA (constM (.int (2305843009213693951)))))) nilA))) (datA (constM (.int (2048)))))) (slotA 1))) nextM)))))
def c_law_draw : Sc := ⟨["pen", "many", "cell", "digit", "blend"], defScope (top 64), [0], true, [("int", .bT "int"), ("len", .bB "len")], 1000000⟩
def F_law_draw : FnSem := fnM 5 [true, false] m_law_draw
theorem e_law_draw : rd c_law_draw (defBody (top 64)) = m_law_draw := by kernel_rfl
theorem s_law_draw : FnScope ["pen", "many", "cell", "digit", "blend"] ["pen", "many"] (defScope (top 64)) := ⟨rfl, rfl, rfl, by decide +kernel, rfl, by decide +kernel, by decide +kernel⟩
def m_law_gcd : M Fl := (seqM (parM [] 0 1 (bcM absW (consA (slotA 0) nilA)) (bcM absW (consA (slotA 1) nilA))) (seqM (forS (iterL range1D (consL (binM .Add (datA (constM (.int (4)))) (datA (binM .Mult (datA (constM (.int (2)))) (datA (bitsM (datA (bcM intW (consA (slotA 1) nilA)))))))) nilL)) (nameG [] 2) (seqM (ifS (boolM (cmpM .Eq (slotA 1) (datA (constM (.int (0)))))) (seqM (fun ρ => .ok .brk ρ) nextM) nextM) (seqM (parM [] 0 1 (slotM 1) (binM .Mod (datA (bcM intW (consA (slotA 0) nilA))) (slotA 1))) nextM))) (seqM (retS [] 0) nextM)))
def c_law_gcd : Sc := ⟨["one", "two", "lap"], defScope (top 65), [], true, [("range", .bT "range"), ("int", .bT "int"), ("abs", .bB "abs")], 1000000⟩
def F_law_gcd : FnSem := fnM 3 [false, false] m_law_gcd
theorem e_law_gcd : rd c_law_gcd (defBody (top 65)) = m_law_gcd := by kernel_rfl
theorem s_law_gcd : FnScope ["one", "two", "lap"] ["one", "two"] (defScope (top 65)) := ⟨rfl, rfl, rfl, by decide +kernel, rfl, by decide +kernel, by decide +kernel⟩
def m_law_power_less : M Fl := (seqM (retM (binM .Add (datA (binM .Add (datA (tupM (consL (tupM (consL (negM (datA (constM (.int (1))))) (consL (constM (.int (1))) nilL))) nilL))) (datA (binM .Mult (datA (tupM (consL (tupM (consL (constM (.int (0))) (consL (constM (.int (1))) nilL))) nilL))) (datA (binM .Sub (slotA 0) (datA (constM (.int (1)))))))))) (datA (tupM (consL (tupM (consL (constM (.int (1))) (consL (constM (.int (1))) nilL))) nilL))))) nextM)
def c_law_power_less : Sc := ⟨["number"], defScope (top 66), [], true, [], 1000000⟩
def F_law_power_less : FnSem := fnM 1 [false] m_law_power_less
theorem e_law_power_less : rd c_law_power_less (defBody (top 66)) = m_law_power_less := by kernel_rfl
theorem s_law_power_less : FnScope ["number"] ["number"] (defScope (top 66)) := ⟨rfl, rfl, rfl, by decide +kernel, rfl, by decide +kernel, by decide +kernel⟩
def m_law : M Fl := (seqM (setM [] 1 (callM F_law_pen (consA (datA (slotM 0)) nilA))) (seqM (forS (iterL range1D (consL (constM (.int (3))) nilL)) (nameG [] 2) (seqM (asgM (tupG 2 (consG (nameG [] 3) (consG (nameG [] 4) nilG))) (tupM (consL (binM .Add (datA (constM (.int (1)))) (datA (callM F_law_draw (consA (slotA 1) (consA (datA (constM (.int (30)))) nilA))))) (consL (binM .Add (datA (constM (.int (1)))) (datA (callM F_law_draw (consA (slotA 1) (consA (datA (constM (.int (16)))) nilA))))) nilL)))) (seqM (parM [] 5 6 (callM F_ring_row (consA (datA (slotM 3)) nilA)) (callM F_ring_row (consA (datA (binM .Mult (datA (constM (.int (2)))) (slotA 3))) nilA))) (seqM (setM [] 7 (cmpM .Eq (datA (binM .Sub (slotA 3) (datA (binM .Mult (datA (binM .FloorDiv (slotA 3) (datA (constM (.int (2)))))) (datA (constM (.int (2)))))))) (datA (constM (.int (1)))))) (seqM (ifS (boolM (cmpM .NotEq (datA (callM F_stretched (consA (datA (slotM 5)) (consA (datA (constM (.int (2)))) nilA)))) (datA (ifM (testM (slotA 7)) (callM F_row_product (consA (datA (slotM 5)) (consA (datA (slotM 6)) nilA))) (slotM 6))))) (seqM (retM (constM (.bl false))) nextM) nextM) (seqM (ifS (orB (andB (testM (slotA 7)) (andB (boolM (cmpM .Gt (slotA 3) (datA (constM (.int (1)))))) (boolM (cmpM .NotEq (slotA 6) (datA (callM F_signed (consA (datA (slotM 5)) nilA))))))) (andB (boolM (cmpM .Eq (slotA 3) (datA (constM (.int (1)))))) (boolM (cmpM .NotEq (slotA 6) (datA (tupM (consL (tupM (consL (constM (.int (1))) (consL (constM (.int (1))) nilL))) (consL (tupM (consL (constM (.int (1))) (consL (constM (.int (1))) nilL))) nilL)))))))) (seqM (retM (constM (.bl false))) nextM) nextM) (seqM (ifS (andB (testM (slotA 7)) (boolM (cmpM .NotEq (datA (callM F_even_half (consA (datA (callM F_row_product (consA (datA (slotM 5)) (consA (datA (callM F_signed (consA (datA (slotM 5)) nilA))) nilA)))) nilA))) (datA (ifM (boolM (cmpM .Gt (slotA 3) (datA (constM (.int (1)))))) (slotM 5) (tupM (consL (tupM (consL (constM (.int (1))) (consL (constM (.int (1))) nilL))) (consL (tupM (consL (negM (datA (constM (.int (1))))) (consL (constM (.int (1))) nilL))) nilL)))))))) (seqM (retM (constM (.bl false))) nextM) nextM) (seqM (parM [] 8 9 (callM F_law_power_less (consA (datA (slotM 3)) nilA)) (callM F_law_power_less (consA (datA (slotM 4)) nilA))) (seqM (ifS (orB (boolM (cmpM .NotEq (datA (callM F_common (consA (datA (slotM 8)) (consA (datA (slotM 9)) nilA)))) (datA (callM F_law_power_less (consA (datA (callM F_law_gcd (consA (datA (slotM 3)) (consA (datA (slotM 4)) nilA)))) nilA))))) (boolM (cmpM .NotEq (datA (ixM (datA (callM F_shared_out (consA (datA (callM F_law_power_less (consA (datA (binM .Mult (datA (constM (.int (2)))) (slotA 4))) nilA))) (consA (datA (slotM 9)) nilA)))) (datA (constM (.int (0)))))) (datA (binM .Add (datA (binM .Add (datA (tupM (consL (tupM (consL (constM (.int (1))) (consL (constM (.int (1))) nilL))) nilL))) (datA (binM .Mult (datA (tupM (consL (tupM (consL (constM (.int (0))) (consL (constM (.int (1))) nilL))) nilL))) (datA (binM .Sub (slotA 4) (datA (constM (.int (1)))))))))) (datA (tupM (consL (tupM (consL (constM (.int (1))) (consL (constM (.int (1))) nilL))) nilL)))))))) (seqM (retM (constM (.bl false))) nextM) nextM) (seqM (setM [] 10 (lcM (iterL range2D (consL (constM (.int (1))) (consL (binM .Add (slotA 4) (datA (constM (.int (1))))) nilL))) (nameG [0, 1, 2, 3, 4, 5, 6, 7, 8, 9, 10] 11) (boolM (cmpM .Eq (datA (binM .Mod (datA (bcM intW (consA (slotA 4) nilA))) (slotA 11))) (datA (constM (.int (0)))))) (slotM 11) [11])) (seqM (ifS (orB (boolM (cmpM .NotEq (datA (callM F_rings_in (consA (datA (slotM 9)) nilA))) (datA (bcM tupleW (consA (datA (lcM (iterM (slotM 10)) (nameG [0, 1, 2, 3, 4, 5, 6, 7, 8, 9, 10] 11) yesM (tupM (consL (slotM 11) (consL (constM (.int (1))) nilL))) [11])) nilA))))) (boolM (cmpM .NotEq (datA (callM F_times_in (consA (datA (callM F_row_product (consA (datA (slotM 9)) (consA (datA (slotM 9)) nilA)))) (consA (datA (callM F_ring_row (consA (datA (slotM 4)) nilA))) nilA)))) (datA (constM (.int (2))))))) (seqM (retM (constM (.bl false))) nextM) nextM) (seqM (ifS (orB (boolM (cmpM .NotEq (datA (callM F_woven (consA (datA (callM F_even_half (consA (datA (slotM 5)) nilA))) (consA (datA (callM F_odd_half (consA (datA (slotM 5)) nilA))) nilA)))) (slotA 5))) (boolM (cmpM .NotEq (datA (callM F_row_sum (consA (datA (callM F_row_behind (consA (datA (callM F_odd_half (consA (datA (slotM 5)) nilA))) (consA (datA (constM (.int (1)))) nilA)))) (consA (datA (tupM nilL)) nilA)))) (datA (callM F_row_behind (consA (datA (callM F_odd_half (consA (datA (slotM 5)) nilA))) (consA (datA (constM (.int (1)))) nilA))))))) (seqM (retM (constM (.bl false))) nextM) nextM) (seqM (ifS (andB (boolM (cmpM .Gt (slotA 3) (datA (constM (.int (1)))))) (boolM (cmpM .NotEq (datA (callM F_back_row (consA (datA (callM F_stretched (consA (datA (slotM 5)) (consA (datA (constM (.int (3)))) nilA)))) nilA))) (datA (callM F_stretched (consA (datA (slotM 5)) (consA (datA (constM (.int (3)))) nilA))))))) (seqM (retM (constM (.bl false))) nextM) nextM) nextM))))))))))))) (seqM (retM (constM (.bl true))) nextM)))
def c_law : Sc := ⟨["script", "pen", "lap", "number", "other", "row", "double", "odd", "first", "second", "divisors", "k"], defScope (top 67), [], true, [("range", .bT "range"), ("back_row", .fn F_back_row [false]), ("stretched", .fn F_stretched [false, false]), ("woven", .fn F_woven [false, false]), ("odd_half", .fn F_odd_half [false]), ("even_half", .fn F_even_half [false]), ("row_sum", .fn F_row_sum [false, false]), ("row_behind", .fn F_row_behind [false, false]), ("rings_in", .fn F_rings_in [false]), ("tuple", .bT "tuple"), ("times_in", .fn F_times_in [false, false]), ("ring_row", .fn F_ring_row [false]), ("row_product_polyrows", .fn F_row_product [false, false]), ("int", .bT "int"), ("common", .fn F_common [false, false]), ("_law_power_less", .fn F_law_power_less [false]), ("_law_gcd", .fn F_law_gcd [false, false]), ("shared_out", .fn F_shared_out [false, false]), ("signed", .fn F_signed [false]), ("_law_draw", .fn F_law_draw [true, false]), ("_law_pen", .fn F_law_pen [false])], 1000000⟩
def F_law : FnSem := fnM 12 [false] m_law
theorem e_law : rd c_law (defBody (top 67)) = m_law := by kernel_rfl
theorem s_law : FnScope ["script", "pen", "lap", "number", "other", "row", "double", "odd", "first", "second", "divisors", "k"] ["script"] (defScope (top 67)) := ⟨rfl, rfl, rfl, by decide +kernel, rfl, by decide +kernel, by decide +kernel⟩
end K21
end FL
set_option Elab.async false
set_option linter.all false
set_option maxRecDepth 100000
set_option maxHeartbeats 0
namespace FL
namespace K21
open PySem PySem.Spec L2
open PyProof.Rows hiding St
theorem boot_isinstance : bootBuiltins "isinstance" = some (.builtin "isinstance") := by kernel_rfl
theorem boot_int : bootBuiltins "int" = some (.type "int") := by kernel_rfl
theorem boot_bool : bootBuiltins "bool" = some (.type "bool") := by kernel_rfl
theorem boot_tuple : bootBuiltins "tuple" = some (.type "tuple") := by kernel_rfl
theorem boot_list : bootBuiltins "list" = some (.type "list") := by kernel_rfl
theorem boot_len : bootBuiltins "len" = some (.builtin "len") := by kernel_rfl
theorem boot_enumerate : bootBuiltins "enumerate" = some (.type "enumerate") := by kernel_rfl
theorem boot_all : bootBuiltins "all" = some (.builtin "all") := by kernel_rfl
theorem boot_zip : bootBuiltins "zip" = some (.type "zip") := by kernel_rfl
theorem boot_max : bootBuiltins "max" = some (.builtin "max") := by kernel_rfl
theorem boot_range : bootBuiltins "range" = some (.type "range") := by kernel_rfl
theorem boot_abs : bootBuiltins "abs" = some (.builtin "abs") := by kernel_rfl
theorem all_mk {l : PySem.W.OpenLaw} {w : World} {K : PySem.W.Frag} {h : Heap} {mg : Str → Option Value} {fa : Addr} (X : K.In h) (G : h.Ns mainGlobals mg) (hfa : mg "law" = some (.ref fa))
    {f0 : Addr} {od0 an0 : Option Addr} {sl0 : Array (Option Value)} {oc0 kV0 dc0 pm0 cd0 ct0 : Value}
    {f1 : Addr} {od1 an1 : Option Addr} {sl1 : Array (Option Value)} {oc1 kV1 dc1 pm1 cd1 ct1 : Value}
    {f2 : Addr} {od2 an2 : Option Addr} {sl2 : Array (Option Value)} {oc2 kV2 dc2 pm2 cd2 ct2 : Value}
    {f3 : Addr} {od3 an3 : Option Addr} {sl3 : Array (Option Value)} {oc3 kV3 dc3 pm3 cd3 ct3 : Value}
    {f4 : Addr} {od4 an4 : Option Addr} {sl4 : Array (Option Value)} {oc4 kV4 dc4 pm4 cd4 ct4 : Value}
    {f5 : Addr} {od5 an5 : Option Addr} {sl5 : Array (Option Value)} {oc5 kV5 dc5 pm5 cd5 ct5 : Value}
    {f6 : Addr} {od6 an6 : Option Addr} {sl6 : Array (Option Value)} {oc6 kV6 dc6 pm6 cd6 ct6 : Value}
    {f7 : Addr} {od7 an7 : Option Addr} {sl7 : Array (Option Value)} {oc7 kV7 dc7 pm7 cd7 ct7 : Value}
    {f8 : Addr} {od8 an8 : Option Addr} {sl8 : Array (Option Value)} {oc8 kV8 dc8 pm8 cd8 ct8 : Value}
    {f9 : Addr} {od9 an9 : Option Addr} {sl9 : Array (Option Value)} {oc9 kV9 dc9 pm9 cd9 ct9 : Value}
    {f10 : Addr} {od10 an10 : Option Addr} {sl10 : Array (Option Value)} {oc10 kV10 dc10 pm10 cd10 ct10 : Value}
    {f11 : Addr} {od11 an11 : Option Addr} {sl11 : Array (Option Value)} {oc11 kV11 dc11 pm11 cd11 ct11 : Value}
    {f12 : Addr} {od12 an12 : Option Addr} {sl12 : Array (Option Value)} {oc12 kV12 dc12 pm12 cd12 ct12 : Value}
    {f13 : Addr} {od13 an13 : Option Addr} {sl13 : Array (Option Value)} {oc13 kV13 dc13 pm13 cd13 ct13 : Value}
    {f14 : Addr} {od14 an14 : Option Addr} {sl14 : Array (Option Value)} {oc14 kV14 dc14 pm14 cd14 ct14 : Value}
    {f15 : Addr} {od15 an15 : Option Addr} {sl15 : Array (Option Value)} {oc15 kV15 dc15 pm15 cd15 ct15 : Value}
    {f16 : Addr} {od16 an16 : Option Addr} {sl16 : Array (Option Value)} {oc16 kV16 dc16 pm16 cd16 ct16 : Value}
    {f17 : Addr} {od17 an17 : Option Addr} {sl17 : Array (Option Value)} {oc17 kV17 dc17 pm17 cd17 ct17 : Value}
    {f18 : Addr} {od18 an18 : Option Addr} {sl18 : Array (Option Value)} {oc18 kV18 dc18 pm18 cd18 ct18 : Value}
    {f19 : Addr} {od19 an19 : Option Addr} {sl19 : Array (Option Value)} {oc19 kV19 dc19 pm19 cd19 ct19 : Value}
    {f20 : Addr} {od20 an20 : Option Addr} {sl20 : Array (Option Value)} {oc20 kV20 dc20 pm20 cd20 ct20 : Value}
    {f21 : Addr} {od21 an21 : Option Addr} {sl21 : Array (Option Value)} {oc21 kV21 dc21 pm21 cd21 ct21 : Value}
    {f22 : Addr} {od22 an22 : Option Addr} {sl22 : Array (Option Value)} {oc22 kV22 dc22 pm22 cd22 ct22 : Value}
    {f23 : Addr} {od23 an23 : Option Addr} {sl23 : Array (Option Value)} {oc23 kV23 dc23 pm23 cd23 ct23 : Value}
    {f24 : Addr} {od24 an24 : Option Addr} {sl24 : Array (Option Value)} {oc24 kV24 dc24 pm24 cd24 ct24 : Value}
    {f25 : Addr} {od25 an25 : Option Addr} {sl25 : Array (Option Value)} {oc25 kV25 dc25 pm25 cd25 ct25 : Value}
    {f26 : Addr} {od26 an26 : Option Addr} {sl26 : Array (Option Value)} {oc26 kV26 dc26 pm26 cd26 ct26 : Value}
    {f27 : Addr} {od27 an27 : Option Addr} {sl27 : Array (Option Value)} {oc27 kV27 dc27 pm27 cd27 ct27 : Value}
    {f28 : Addr} {od28 an28 : Option Addr} {sl28 : Array (Option Value)} {oc28 kV28 dc28 pm28 cd28 ct28 : Value}
    {f29 : Addr} {od29 an29 : Option Addr} {sl29 : Array (Option Value)} {oc29 kV29 dc29 pm29 cd29 ct29 : Value}
    {f30 : Addr} {od30 an30 : Option Addr} {sl30 : Array (Option Value)} {oc30 kV30 dc30 pm30 cd30 ct30 : Value}
    {f31 : Addr} {od31 an31 : Option Addr} {sl31 : Array (Option Value)} {oc31 kV31 dc31 pm31 cd31 ct31 : Value}
    {f32 : Addr} {od32 an32 : Option Addr} {sl32 : Array (Option Value)} {oc32 kV32 dc32 pm32 cd32 ct32 : Value}
    {f33 : Addr} {od33 an33 : Option Addr} {sl33 : Array (Option Value)} {oc33 kV33 dc33 pm33 cd33 ct33 : Value}
    {f34 : Addr} {od34 an34 : Option Addr} {sl34 : Array (Option Value)} {oc34 kV34 dc34 pm34 cd34 ct34 : Value}
    {f35 : Addr} {od35 an35 : Option Addr} {sl35 : Array (Option Value)} {oc35 kV35 dc35 pm35 cd35 ct35 : Value}
    {f36 : Addr} {od36 an36 : Option Addr} {sl36 : Array (Option Value)} {oc36 kV36 dc36 pm36 cd36 ct36 : Value}
    {f37 : Addr} {od37 an37 : Option Addr} {sl37 : Array (Option Value)} {oc37 kV37 dc37 pm37 cd37 ct37 : Value}
    {f38 : Addr} {od38 an38 : Option Addr} {sl38 : Array (Option Value)} {oc38 kV38 dc38 pm38 cd38 ct38 : Value}
    {f39 : Addr} {od39 an39 : Option Addr} {sl39 : Array (Option Value)} {oc39 kV39 dc39 pm39 cd39 ct39 : Value}
    {f40 : Addr} {od40 an40 : Option Addr} {sl40 : Array (Option Value)} {oc40 kV40 dc40 pm40 cd40 ct40 : Value}
    {f41 : Addr} {od41 an41 : Option Addr} {sl41 : Array (Option Value)} {oc41 kV41 dc41 pm41 cd41 ct41 : Value}
    {f42 : Addr} {od42 an42 : Option Addr} {sl42 : Array (Option Value)} {oc42 kV42 dc42 pm42 cd42 ct42 : Value}
    {f43 : Addr} {od43 an43 : Option Addr} {sl43 : Array (Option Value)} {oc43 kV43 dc43 pm43 cd43 ct43 : Value}
    {f44 : Addr} {od44 an44 : Option Addr} {sl44 : Array (Option Value)} {oc44 kV44 dc44 pm44 cd44 ct44 : Value}
    {f45 : Addr} {od45 an45 : Option Addr} {sl45 : Array (Option Value)} {oc45 kV45 dc45 pm45 cd45 ct45 : Value}
    {f46 : Addr} {od46 an46 : Option Addr} {sl46 : Array (Option Value)} {oc46 kV46 dc46 pm46 cd46 ct46 : Value}
    {v0 : Addr} {vd0 : Option Addr} {vn0 : Nat} {vs0 : Array (Option Value)} {t0_0 t0_1 : Tok}
    {v1 : Addr} {vd1 : Option Addr} {vn1 : Nat} {vs1 : Array (Option Value)} {t1_0 t1_1 : Tok}
    {t2 : Tok}
    {t3 : Tok}
    {t4 : Tok}
    (a0 : PySem.W.nsIn K mainGlobals "in_tuples" = some (some (.ref f1)))
    (a1 : PySem.W.nsIn K mainGlobals "is_whole" = some (some (.ref f0)))
    (a2 : PySem.W.nsIn K mainGlobals "is_pair" = some (some (.ref f3)))
    (a3 : PySem.W.nsIn K mainGlobals "lowest" = some (some (.ref f5)))
    (a4 : PySem.W.nsIn K mainGlobals "trimmed" = some (some (.ref f12)))
    (a5 : PySem.W.nsIn K mainGlobals "summed" = some (some (.ref f7)))
    (a6 : PySem.W.nsIn K mainGlobals "scaled" = some (some (.ref f9)))
    (a7 : PySem.W.nsIn K mainGlobals "lessened" = some (some (.ref f8)))
    (a8 : PySem.W.nsIn K mainGlobals "parted" = some (some (.ref f10)))
    (a9 : PySem.W.nsIn K mainGlobals "row_scaled" = some (some (.ref f14)))
    (a10 : PySem.W.nsIn K mainGlobals "rest_of" = some (some (.ref f16)))
    (a11 : PySem.W.nsIn K mainGlobals "turned_sign" = some (some (.ref f11)))
    (a12 : PySem.W.nsIn K mainGlobals "told" = some (some (.ref f6)))
    (a13 : PySem.W.nsIn K mainGlobals "is_ratio" = some (some (.ref f4)))
    (a14 : PySem.W.nsIn K mainGlobals "row_sum_by" = some (some (.ref f20)))
    (a15 : PySem.W.nsIn K mainGlobals "row_passed" = some (some (.ref f19)))
    (a16 : PySem.W.nsIn K mainGlobals "row_product_maskrows" = some (some (.ref f13)))
    (a17 : PySem.W.nsIn K mainGlobals "behind_by" = some (some (.ref f21)))
    (a18 : PySem.W.nsIn K mainGlobals "need_between" = some (some (.ref f2)))
    (a19 : PySem.W.nsIn K mainGlobals "stretched_by" = some (some (.ref f22)))
    (a20 : PySem.W.nsIn K mainGlobals "opposite" = some (some (.ref f18)))
    (a21 : PySem.W.nsIn K mainGlobals "shared_by" = some (some (.ref f29)))
    (a22 : PySem.W.nsIn K mainGlobals "common_of" = some (some (.ref f17)))
    (a23 : PySem.W.nsIn K mainGlobals "times_by" = some (some (.ref f31)))
    (a24 : PySem.W.nsIn K mainGlobals "ring_by" = some (some (.ref f35)))
    (a25 : PySem.W.nsIn K mainGlobals "divides" = some (some (.ref f30)))
    (a26 : PySem.W.nsIn K mainGlobals "parts_of" = some (some (.ref f15)))
    (a27 : PySem.W.nsIn K mainGlobals "woven_by" = some (some (.ref f38)))
    (a28 : PySem.W.nsIn K mainGlobals "back_row" = some (some (.ref f28)))
    (a29 : PySem.W.nsIn K mainGlobals "stretched" = some (some (.ref f26)))
    (a30 : PySem.W.nsIn K mainGlobals "woven" = some (some (.ref f41)))
    (a31 : PySem.W.nsIn K mainGlobals "odd_half" = some (some (.ref f40)))
    (a32 : PySem.W.nsIn K mainGlobals "even_half" = some (some (.ref f39)))
    (a33 : PySem.W.nsIn K mainGlobals "row_sum" = some (some (.ref f23)))
    (a34 : PySem.W.nsIn K mainGlobals "row_behind" = some (some (.ref f25)))
    (a35 : PySem.W.nsIn K mainGlobals "rings_in" = some (some (.ref f37)))
    (a36 : PySem.W.nsIn K mainGlobals "times_in" = some (some (.ref f34)))
    (a37 : PySem.W.nsIn K mainGlobals "ring_row" = some (some (.ref f36)))
    (a38 : PySem.W.nsIn K mainGlobals "row_product_polyrows" = some (some (.ref f24)))
    (a39 : PySem.W.nsIn K mainGlobals "common" = some (some (.ref f33)))
    (a40 : PySem.W.nsIn K mainGlobals "_law_power_less" = some (some (.ref f45)))
    (a41 : PySem.W.nsIn K mainGlobals "_law_gcd" = some (some (.ref f44)))
    (a42 : PySem.W.nsIn K mainGlobals "shared_out" = some (some (.ref f32)))
    (a43 : PySem.W.nsIn K mainGlobals "signed" = some (some (.ref f27)))
    (a44 : PySem.W.nsIn K mainGlobals "_law_draw" = some (some (.ref f43)))
    (a45 : PySem.W.nsIn K mainGlobals "_law_pen" = some (some (.ref f42)))
    (a46 : PySem.W.nsIn K mainGlobals "law" = some (some (.ref f46)))
    (g0 : PySem.W.nsIn K mainGlobals "NONE" = some (some (.ref v0)))
    (h0 : K.lookup v0 = some ⟨.type "tuple", vd0, .seq #[.int (0) t0_0, .int (1) t0_1] vn0, vs0⟩)
    (g1 : PySem.W.nsIn K mainGlobals "ONE" = some (some (.ref v1)))
    (h1 : K.lookup v1 = some ⟨.type "tuple", vd1, .seq #[.int (1) t1_0, .int (1) t1_1] vn1, vs1⟩)
    (g2 : PySem.W.nsIn K mainGlobals "MOST_BEHIND" = some (some (.int (16) t2)))
    (g3 : PySem.W.nsIn K mainGlobals "MOST_STRETCHED" = some (some (.int (8) t3)))
    (g4 : PySem.W.nsIn K mainGlobals "MOST_RING" = some (some (.int (60) t4)))
    (z0 : PySem.W.nsIn K mainGlobals "isinstance" = some none)
    (z1 : PySem.W.nsIn K mainGlobals "int" = some none)
    (z2 : PySem.W.nsIn K mainGlobals "bool" = some none)
    (z3 : PySem.W.nsIn K mainGlobals "tuple" = some none)
    (z4 : PySem.W.nsIn K mainGlobals "list" = some none)
    (z5 : PySem.W.nsIn K mainGlobals "len" = some none)
    (z6 : PySem.W.nsIn K mainGlobals "enumerate" = some none)
    (z7 : PySem.W.nsIn K mainGlobals "all" = some none)
    (z8 : PySem.W.nsIn K mainGlobals "zip" = some none)
    (z9 : PySem.W.nsIn K mainGlobals "max" = some none)
    (z10 : PySem.W.nsIn K mainGlobals "range" = some none)
    (z11 : PySem.W.nsIn K mainGlobals "abs" = some none)
    (w0 : PySem.W.nsIn K mainGlobals "gcd" = some (some (.builtin "math.gcd")))
    (l0 : K.lookup f0 = some ⟨oc0, od0, .func (PySem.W.fnOf "is_whole" "is_whole" (defArgs (top 7)) (defBody (top 7)) (defScope (top 7)) .none kV0 dc0 pm0 an0 cd0 ct0), sl0⟩)
    (c0 : PySem.W.codeIn K cd0 "is_whole" = true)
    (k0 : PySem.W.keepIn K (.ref f0) = true)
    (l1 : K.lookup f1 = some ⟨oc1, od1, .func (PySem.W.fnOf "in_tuples" "in_tuples" (defArgs (top 8)) (defBody (top 8)) (defScope (top 8)) .none kV1 dc1 pm1 an1 cd1 ct1), sl1⟩)
    (c1 : PySem.W.codeIn K cd1 "in_tuples" = true)
    (k1 : PySem.W.keepIn K (.ref f1) = true)
    (l2 : K.lookup f2 = some ⟨oc2, od2, .func (PySem.W.fnOf "need_between" "need_between" (defArgs (top 9)) (defBody (top 9)) (defScope (top 9)) .none kV2 dc2 pm2 an2 cd2 ct2), sl2⟩)
    (c2 : PySem.W.codeIn K cd2 "need_between" = true)
    (k2 : PySem.W.keepIn K (.ref f2) = true)
    (l3 : K.lookup f3 = some ⟨oc3, od3, .func (PySem.W.fnOf "is_pair" "is_pair" (defArgs (top 11)) (defBody (top 11)) (defScope (top 11)) .none kV3 dc3 pm3 an3 cd3 ct3), sl3⟩)
    (c3 : PySem.W.codeIn K cd3 "is_pair" = true)
    (k3 : PySem.W.keepIn K (.ref f3) = true)
    (l4 : K.lookup f4 = some ⟨oc4, od4, .func (PySem.W.fnOf "is_ratio" "is_ratio" (defArgs (top 12)) (defBody (top 12)) (defScope (top 12)) .none kV4 dc4 pm4 an4 cd4 ct4), sl4⟩)
    (c4 : PySem.W.codeIn K cd4 "is_ratio" = true)
    (k4 : PySem.W.keepIn K (.ref f4) = true)
    (l5 : K.lookup f5 = some ⟨oc5, od5, .func (PySem.W.fnOf "lowest" "lowest" (defArgs (top 13)) (defBody (top 13)) (defScope (top 13)) .none kV5 dc5 pm5 an5 cd5 ct5), sl5⟩)
    (c5 : PySem.W.codeIn K cd5 "lowest" = true)
    (k5 : PySem.W.keepIn K (.ref f5) = true)
    (l6 : K.lookup f6 = some ⟨oc6, od6, .func (PySem.W.fnOf "told" "told" (defArgs (top 14)) (defBody (top 14)) (defScope (top 14)) .none kV6 dc6 pm6 an6 cd6 ct6), sl6⟩)
    (c6 : PySem.W.codeIn K cd6 "told" = true)
    (k6 : PySem.W.keepIn K (.ref f6) = true)
    (l7 : K.lookup f7 = some ⟨oc7, od7, .func (PySem.W.fnOf "summed" "summed" (defArgs (top 15)) (defBody (top 15)) (defScope (top 15)) .none kV7 dc7 pm7 an7 cd7 ct7), sl7⟩)
    (c7 : PySem.W.codeIn K cd7 "summed" = true)
    (k7 : PySem.W.keepIn K (.ref f7) = true)
    (l8 : K.lookup f8 = some ⟨oc8, od8, .func (PySem.W.fnOf "lessened" "lessened" (defArgs (top 16)) (defBody (top 16)) (defScope (top 16)) .none kV8 dc8 pm8 an8 cd8 ct8), sl8⟩)
    (c8 : PySem.W.codeIn K cd8 "lessened" = true)
    (k8 : PySem.W.keepIn K (.ref f8) = true)
    (l9 : K.lookup f9 = some ⟨oc9, od9, .func (PySem.W.fnOf "scaled" "scaled" (defArgs (top 17)) (defBody (top 17)) (defScope (top 17)) .none kV9 dc9 pm9 an9 cd9 ct9), sl9⟩)
    (c9 : PySem.W.codeIn K cd9 "scaled" = true)
    (k9 : PySem.W.keepIn K (.ref f9) = true)
    (l10 : K.lookup f10 = some ⟨oc10, od10, .func (PySem.W.fnOf "parted" "parted" (defArgs (top 18)) (defBody (top 18)) (defScope (top 18)) .none kV10 dc10 pm10 an10 cd10 ct10), sl10⟩)
    (c10 : PySem.W.codeIn K cd10 "parted" = true)
    (k10 : PySem.W.keepIn K (.ref f10) = true)
    (l11 : K.lookup f11 = some ⟨oc11, od11, .func (PySem.W.fnOf "turned_sign" "turned_sign" (defArgs (top 19)) (defBody (top 19)) (defScope (top 19)) .none kV11 dc11 pm11 an11 cd11 ct11), sl11⟩)
    (c11 : PySem.W.codeIn K cd11 "turned_sign" = true)
    (k11 : PySem.W.keepIn K (.ref f11) = true)
    (l12 : K.lookup f12 = some ⟨oc12, od12, .func (PySem.W.fnOf "trimmed" "trimmed" (defArgs (top 23)) (defBody (top 23)) (defScope (top 23)) .none kV12 dc12 pm12 an12 cd12 ct12), sl12⟩)
    (c12 : PySem.W.codeIn K cd12 "trimmed" = true)
    (k12 : PySem.W.keepIn K (.ref f12) = true)
    (l13 : K.lookup f13 = some ⟨oc13, od13, .func (PySem.W.fnOf "row_product" "row_product" (defArgs (top 24)) (defBody (top 24)) (defScope (top 24)) .none kV13 dc13 pm13 an13 cd13 ct13), sl13⟩)
    (c13 : PySem.W.codeIn K cd13 "row_product" = true)
    (k13 : PySem.W.keepIn K (.ref f13) = true)
    (l14 : K.lookup f14 = some ⟨oc14, od14, .func (PySem.W.fnOf "row_scaled" "row_scaled" (defArgs (top 26)) (defBody (top 26)) (defScope (top 26)) .none kV14 dc14 pm14 an14 cd14 ct14), sl14⟩)
    (c14 : PySem.W.codeIn K cd14 "row_scaled" = true)
    (k14 : PySem.W.keepIn K (.ref f14) = true)
    (l15 : K.lookup f15 = some ⟨oc15, od15, .func (PySem.W.fnOf "parts_of" "parts_of" (defArgs (top 27)) (defBody (top 27)) (defScope (top 27)) .none kV15 dc15 pm15 an15 cd15 ct15), sl15⟩)
    (c15 : PySem.W.codeIn K cd15 "parts_of" = true)
    (k15 : PySem.W.keepIn K (.ref f15) = true)
    (l16 : K.lookup f16 = some ⟨oc16, od16, .func (PySem.W.fnOf "rest_of" "rest_of" (defArgs (top 28)) (defBody (top 28)) (defScope (top 28)) .none kV16 dc16 pm16 an16 cd16 ct16), sl16⟩)
    (c16 : PySem.W.codeIn K cd16 "rest_of" = true)
    (k16 : PySem.W.keepIn K (.ref f16) = true)
    (l17 : K.lookup f17 = some ⟨oc17, od17, .func (PySem.W.fnOf "common_of" "common_of" (defArgs (top 29)) (defBody (top 29)) (defScope (top 29)) .none kV17 dc17 pm17 an17 cd17 ct17), sl17⟩)
    (c17 : PySem.W.codeIn K cd17 "common_of" = true)
    (k17 : PySem.W.keepIn K (.ref f17) = true)
    (l18 : K.lookup f18 = some ⟨oc18, od18, .func (PySem.W.fnOf "opposite" "opposite" (defArgs (top 30)) (defBody (top 30)) (defScope (top 30)) .none kV18 dc18 pm18 an18 cd18 ct18), sl18⟩)
    (c18 : PySem.W.codeIn K cd18 "opposite" = true)
    (k18 : PySem.W.keepIn K (.ref f18) = true)
    (l19 : K.lookup f19 = some ⟨oc19, od19, .func (PySem.W.fnOf "row_passed" "row_passed" (defArgs (top 34)) (defBody (top 34)) (defScope (top 34)) .none kV19 dc19 pm19 an19 cd19 ct19), sl19⟩)
    (c19 : PySem.W.codeIn K cd19 "row_passed" = true)
    (k19 : PySem.W.keepIn K (.ref f19) = true)
    (l20 : K.lookup f20 = some ⟨oc20, od20, .func (PySem.W.fnOf "row_sum_by" "row_sum_by" (defArgs (top 35)) (defBody (top 35)) (defScope (top 35)) .none kV20 dc20 pm20 an20 cd20 ct20), sl20⟩)
    (c20 : PySem.W.codeIn K cd20 "row_sum_by" = true)
    (k20 : PySem.W.keepIn K (.ref f20) = true)
    (l21 : K.lookup f21 = some ⟨oc21, od21, .func (PySem.W.fnOf "behind_by" "behind_by" (defArgs (top 36)) (defBody (top 36)) (defScope (top 36)) .none kV21 dc21 pm21 an21 cd21 ct21), sl21⟩)
    (c21 : PySem.W.codeIn K cd21 "behind_by" = true)
    (k21 : PySem.W.keepIn K (.ref f21) = true)
    (l22 : K.lookup f22 = some ⟨oc22, od22, .func (PySem.W.fnOf "stretched_by" "stretched_by" (defArgs (top 37)) (defBody (top 37)) (defScope (top 37)) .none kV22 dc22 pm22 an22 cd22 ct22), sl22⟩)
    (c22 : PySem.W.codeIn K cd22 "stretched_by" = true)
    (k22 : PySem.W.keepIn K (.ref f22) = true)
    (l23 : K.lookup f23 = some ⟨oc23, od23, .func (PySem.W.fnOf "row_sum" "row_sum" (defArgs (top 38)) (defBody (top 38)) (defScope (top 38)) .none kV23 dc23 pm23 an23 cd23 ct23), sl23⟩)
    (c23 : PySem.W.codeIn K cd23 "row_sum" = true)
    (k23 : PySem.W.keepIn K (.ref f23) = true)
    (l24 : K.lookup f24 = some ⟨oc24, od24, .func (PySem.W.fnOf "row_product" "row_product" (defArgs (top 39)) (defBody (top 39)) (defScope (top 39)) .none kV24 dc24 pm24 an24 cd24 ct24), sl24⟩)
    (c24 : PySem.W.codeIn K cd24 "row_product" = true)
    (k24 : PySem.W.keepIn K (.ref f24) = true)
    (l25 : K.lookup f25 = some ⟨oc25, od25, .func (PySem.W.fnOf "row_behind" "row_behind" (defArgs (top 41)) (defBody (top 41)) (defScope (top 41)) .none kV25 dc25 pm25 an25 cd25 ct25), sl25⟩)
    (c25 : PySem.W.codeIn K cd25 "row_behind" = true)
    (k25 : PySem.W.keepIn K (.ref f25) = true)
    (l26 : K.lookup f26 = some ⟨oc26, od26, .func (PySem.W.fnOf "stretched" "stretched" (defArgs (top 42)) (defBody (top 42)) (defScope (top 42)) .none kV26 dc26 pm26 an26 cd26 ct26), sl26⟩)
    (c26 : PySem.W.codeIn K cd26 "stretched" = true)
    (k26 : PySem.W.keepIn K (.ref f26) = true)
    (l27 : K.lookup f27 = some ⟨oc27, od27, .func (PySem.W.fnOf "signed" "signed" (defArgs (top 43)) (defBody (top 43)) (defScope (top 43)) .none kV27 dc27 pm27 an27 cd27 ct27), sl27⟩)
    (c27 : PySem.W.codeIn K cd27 "signed" = true)
    (k27 : PySem.W.keepIn K (.ref f27) = true)
    (l28 : K.lookup f28 = some ⟨oc28, od28, .func (PySem.W.fnOf "back_row" "back_row" (defArgs (top 44)) (defBody (top 44)) (defScope (top 44)) .none kV28 dc28 pm28 an28 cd28 ct28), sl28⟩)
    (c28 : PySem.W.codeIn K cd28 "back_row" = true)
    (k28 : PySem.W.keepIn K (.ref f28) = true)
    (l29 : K.lookup f29 = some ⟨oc29, od29, .func (PySem.W.fnOf "shared_by" "shared_by" (defArgs (top 46)) (defBody (top 46)) (defScope (top 46)) .none kV29 dc29 pm29 an29 cd29 ct29), sl29⟩)
    (c29 : PySem.W.codeIn K cd29 "shared_by" = true)
    (k29 : PySem.W.keepIn K (.ref f29) = true)
    (l30 : K.lookup f30 = some ⟨oc30, od30, .func (PySem.W.fnOf "divides" "divides" (defArgs (top 47)) (defBody (top 47)) (defScope (top 47)) .none kV30 dc30 pm30 an30 cd30 ct30), sl30⟩)
    (c30 : PySem.W.codeIn K cd30 "divides" = true)
    (k30 : PySem.W.keepIn K (.ref f30) = true)
    (l31 : K.lookup f31 = some ⟨oc31, od31, .func (PySem.W.fnOf "times_by" "times_by" (defArgs (top 48)) (defBody (top 48)) (defScope (top 48)) .none kV31 dc31 pm31 an31 cd31 ct31), sl31⟩)
    (c31 : PySem.W.codeIn K cd31 "times_by" = true)
    (k31 : PySem.W.keepIn K (.ref f31) = true)
    (l32 : K.lookup f32 = some ⟨oc32, od32, .func (PySem.W.fnOf "shared_out" "shared_out" (defArgs (top 49)) (defBody (top 49)) (defScope (top 49)) .none kV32 dc32 pm32 an32 cd32 ct32), sl32⟩)
    (c32 : PySem.W.codeIn K cd32 "shared_out" = true)
    (k32 : PySem.W.keepIn K (.ref f32) = true)
    (l33 : K.lookup f33 = some ⟨oc33, od33, .func (PySem.W.fnOf "common" "common" (defArgs (top 50)) (defBody (top 50)) (defScope (top 50)) .none kV33 dc33 pm33 an33 cd33 ct33), sl33⟩)
    (c33 : PySem.W.codeIn K cd33 "common" = true)
    (k33 : PySem.W.keepIn K (.ref f33) = true)
    (l34 : K.lookup f34 = some ⟨oc34, od34, .func (PySem.W.fnOf "times_in" "times_in" (defArgs (top 51)) (defBody (top 51)) (defScope (top 51)) .none kV34 dc34 pm34 an34 cd34 ct34), sl34⟩)
    (c34 : PySem.W.codeIn K cd34 "times_in" = true)
    (k34 : PySem.W.keepIn K (.ref f34) = true)
    (l35 : K.lookup f35 = some ⟨oc35, od35, .func (PySem.W.fnOf "ring_by" "ring_by" (defArgs (top 54)) (defBody (top 54)) (defScope (top 54)) .none kV35 dc35 pm35 an35 cd35 ct35), sl35⟩)
    (c35 : PySem.W.codeIn K cd35 "ring_by" = true)
    (k35 : PySem.W.keepIn K (.ref f35) = true)
    (l36 : K.lookup f36 = some ⟨oc36, od36, .func (PySem.W.fnOf "ring_row" "ring_row" (defArgs (top 55)) (defBody (top 55)) (defScope (top 55)) .none kV36 dc36 pm36 an36 cd36 ct36), sl36⟩)
    (c36 : PySem.W.codeIn K cd36 "ring_row" = true)
    (k36 : PySem.W.keepIn K (.ref f36) = true)
    (l37 : K.lookup f37 = some ⟨oc37, od37, .func (PySem.W.fnOf "rings_in" "rings_in" (defArgs (top 56)) (defBody (top 56)) (defScope (top 56)) .none kV37 dc37 pm37 an37 cd37 ct37), sl37⟩)
    (c37 : PySem.W.codeIn K cd37 "rings_in" = true)
    (k37 : PySem.W.keepIn K (.ref f37) = true)
    (l38 : K.lookup f38 = some ⟨oc38, od38, .func (PySem.W.fnOf "woven_by" "woven_by" (defArgs (top 58)) (defBody (top 58)) (defScope (top 58)) .none kV38 dc38 pm38 an38 cd38 ct38), sl38⟩)
    (c38 : PySem.W.codeIn K cd38 "woven_by" = true)
    (k38 : PySem.W.keepIn K (.ref f38) = true)
    (l39 : K.lookup f39 = some ⟨oc39, od39, .func (PySem.W.fnOf "even_half" "even_half" (defArgs (top 59)) (defBody (top 59)) (defScope (top 59)) .none kV39 dc39 pm39 an39 cd39 ct39), sl39⟩)
    (c39 : PySem.W.codeIn K cd39 "even_half" = true)
    (k39 : PySem.W.keepIn K (.ref f39) = true)
    (l40 : K.lookup f40 = some ⟨oc40, od40, .func (PySem.W.fnOf "odd_half" "odd_half" (defArgs (top 60)) (defBody (top 60)) (defScope (top 60)) .none kV40 dc40 pm40 an40 cd40 ct40), sl40⟩)
    (c40 : PySem.W.codeIn K cd40 "odd_half" = true)
    (k40 : PySem.W.keepIn K (.ref f40) = true)
    (l41 : K.lookup f41 = some ⟨oc41, od41, .func (PySem.W.fnOf "woven" "woven" (defArgs (top 61)) (defBody (top 61)) (defScope (top 61)) .none kV41 dc41 pm41 an41 cd41 ct41), sl41⟩)
    (c41 : PySem.W.codeIn K cd41 "woven" = true)
    (k41 : PySem.W.keepIn K (.ref f41) = true)
    (l42 : K.lookup f42 = some ⟨oc42, od42, .func (PySem.W.fnOf "_law_pen" "_law_pen" (defArgs (top 63)) (defBody (top 63)) (defScope (top 63)) .none kV42 dc42 pm42 an42 cd42 ct42), sl42⟩)
    (c42 : PySem.W.codeIn K cd42 "_law_pen" = true)
    (k42 : PySem.W.keepIn K (.ref f42) = true)
    (l43 : K.lookup f43 = some ⟨oc43, od43, .func (PySem.W.fnOf "_law_draw" "_law_draw" (defArgs (top 64)) (defBody (top 64)) (defScope (top 64)) .none kV43 dc43 pm43 an43 cd43 ct43), sl43⟩)
    (c43 : PySem.W.codeIn K cd43 "_law_draw" = true)
    (k43 : PySem.W.keepIn K (.ref f43) = true)
    (l44 : K.lookup f44 = some ⟨oc44, od44, .func (PySem.W.fnOf "_law_gcd" "_law_gcd" (defArgs (top 65)) (defBody (top 65)) (defScope (top 65)) .none kV44 dc44 pm44 an44 cd44 ct44), sl44⟩)
    (c44 : PySem.W.codeIn K cd44 "_law_gcd" = true)
    (k44 : PySem.W.keepIn K (.ref f44) = true)
    (l45 : K.lookup f45 = some ⟨oc45, od45, .func (PySem.W.fnOf "_law_power_less" "_law_power_less" (defArgs (top 66)) (defBody (top 66)) (defScope (top 66)) .none kV45 dc45 pm45 an45 cd45 ct45), sl45⟩)
    (c45 : PySem.W.codeIn K cd45 "_law_power_less" = true)
    (k45 : PySem.W.keepIn K (.ref f45) = true)
    (l46 : K.lookup f46 = some ⟨oc46, od46, .func (PySem.W.fnOf "law" "law" (defArgs (top 67)) (defBody (top 67)) (defScope (top 67)) .none kV46 dc46 pm46 an46 cd46 ct46), sl46⟩)
    (c46 : PySem.W.codeIn K cd46 "law" = true)
    (k46 : PySem.W.keepIn K (.ref f46) = true)
    : ∃ fd : FuncData, (∀ (s : Shared) (u : Value), BindsTo s fd ⟨[u], []⟩ [("script", u)]) ∧ ∀ base : Heap, K.In base → base.Ns mainGlobals mg → FnG l.prog w K mg base 11 fa fd ["script"] F_law := by
  have ea : f46 = fa := by
    have e := (PySem.W.mg_of X G a46).symm.trans hfa
    cases e
    rfl
  subst ea
  have U0 := fun_mk (st := top 7) l0 c0 k0
  have b0 := U0.binds (ps := ["value"]) fun _ _ _ _ _ _ us hl => match us, hl with | [_], _ => rfl
  have U1 := fun_mk (st := top 8) l1 c1 k1
  have b1 := U1.binds (ps := ["value"]) fun _ _ _ _ _ _ us hl => match us, hl with | [_], _ => rfl
  have U2 := fun_mk (st := top 9) l2 c2 k2
  have b2 := U2.binds (ps := ["what", "number", "low", "high"]) fun _ _ _ _ _ _ us hl => match us, hl with | [_, _, _, _], _ => rfl
  have U3 := fun_mk (st := top 11) l3 c3 k3
  have b3 := U3.binds (ps := ["value"]) fun _ _ _ _ _ _ us hl => match us, hl with | [_], _ => rfl
  have U4 := fun_mk (st := top 12) l4 c4 k4
  have b4 := U4.binds (ps := ["value"]) fun _ _ _ _ _ _ us hl => match us, hl with | [_], _ => rfl
  have U5 := fun_mk (st := top 13) l5 c5 k5
  have b5 := U5.binds (ps := ["top", "bottom"]) fun _ _ _ _ _ _ us hl => match us, hl with | [_, _], _ => rfl
  have U6 := fun_mk (st := top 14) l6 c6 k6
  have b6 := U6.binds (ps := ["ratio"]) fun _ _ _ _ _ _ us hl => match us, hl with | [_], _ => rfl
  have U7 := fun_mk (st := top 15) l7 c7 k7
  have b7 := U7.binds (ps := ["one", "other"]) fun _ _ _ _ _ _ us hl => match us, hl with | [_, _], _ => rfl
  have U8 := fun_mk (st := top 16) l8 c8 k8
  have b8 := U8.binds (ps := ["one", "other"]) fun _ _ _ _ _ _ us hl => match us, hl with | [_, _], _ => rfl
  have U9 := fun_mk (st := top 17) l9 c9 k9
  have b9 := U9.binds (ps := ["one", "other"]) fun _ _ _ _ _ _ us hl => match us, hl with | [_, _], _ => rfl
  have U10 := fun_mk (st := top 18) l10 c10 k10
  have b10 := U10.binds (ps := ["one", "other"]) fun _ _ _ _ _ _ us hl => match us, hl with | [_, _], _ => rfl
  have U11 := fun_mk (st := top 19) l11 c11 k11
  have b11 := U11.binds (ps := ["one"]) fun _ _ _ _ _ _ us hl => match us, hl with | [_], _ => rfl
  have U12 := fun_mk (st := top 23) l12 c12 k12
  have b12 := U12.binds (ps := ["row"]) fun _ _ _ _ _ _ us hl => match us, hl with | [_], _ => rfl
  have U13 := fun_mk (st := top 24) l13 c13 k13
  have b13 := U13.binds (ps := ["one", "other"]) fun _ _ _ _ _ _ us hl => match us, hl with | [_, _], _ => rfl
  have U14 := fun_mk (st := top 26) l14 c14 k14
  have b14 := U14.binds (ps := ["by", "row"]) fun _ _ _ _ _ _ us hl => match us, hl with | [_, _], _ => rfl
  have U15 := fun_mk (st := top 27) l15 c15 k15
  have b15 := U15.binds (ps := ["mask"]) fun _ _ _ _ _ _ us hl => match us, hl with | [_], _ => rfl
  have U16 := fun_mk (st := top 28) l16 c16 k16
  have b16 := U16.binds (ps := ["one", "other"]) fun _ _ _ _ _ _ us hl => match us, hl with | [_, _], _ => rfl
  have U17 := fun_mk (st := top 29) l17 c17 k17
  have b17 := U17.binds (ps := ["one", "other"]) fun _ _ _ _ _ _ us hl => match us, hl with | [_, _], _ => rfl
  have U18 := fun_mk (st := top 30) l18 c18 k18
  have b18 := U18.binds (ps := ["row"]) fun _ _ _ _ _ _ us hl => match us, hl with | [_], _ => rfl
  have U19 := fun_mk (st := top 34) l19 c19 k19
  have b19 := U19.binds (ps := ["row"]) fun _ _ _ _ _ _ us hl => match us, hl with | [_], _ => rfl
  have U20 := fun_mk (st := top 35) l20 c20 k20
  have b20 := U20.binds (ps := ["one", "other"]) fun _ _ _ _ _ _ us hl => match us, hl with | [_, _], _ => rfl
  have U21 := fun_mk (st := top 36) l21 c21 k21
  have b21 := U21.binds (ps := ["row", "many"]) fun _ _ _ _ _ _ us hl => match us, hl with | [_, _], _ => rfl
  have U22 := fun_mk (st := top 37) l22 c22 k22
  have b22 := U22.binds (ps := ["row", "many"]) fun _ _ _ _ _ _ us hl => match us, hl with | [_, _], _ => rfl
  have U23 := fun_mk (st := top 38) l23 c23 k23
  have b23 := U23.binds (ps := ["one", "other"]) fun _ _ _ _ _ _ us hl => match us, hl with | [_, _], _ => rfl
  have U24 := fun_mk (st := top 39) l24 c24 k24
  have b24 := U24.binds (ps := ["one", "other"]) fun _ _ _ _ _ _ us hl => match us, hl with | [_, _], _ => rfl
  have U25 := fun_mk (st := top 41) l25 c25 k25
  have b25 := U25.binds (ps := ["row", "many"]) fun _ _ _ _ _ _ us hl => match us, hl with | [_, _], _ => rfl
  have U26 := fun_mk (st := top 42) l26 c26 k26
  have b26 := U26.binds (ps := ["row", "many"]) fun _ _ _ _ _ _ us hl => match us, hl with | [_, _], _ => rfl
  have U27 := fun_mk (st := top 43) l27 c27 k27
  have b27 := U27.binds (ps := ["row"]) fun _ _ _ _ _ _ us hl => match us, hl with | [_], _ => rfl
  have U28 := fun_mk (st := top 44) l28 c28 k28
  have b28 := U28.binds (ps := ["row"]) fun _ _ _ _ _ _ us hl => match us, hl with | [_], _ => rfl
  have U29 := fun_mk (st := top 46) l29 c29 k29
  have b29 := U29.binds (ps := ["row", "by"]) fun _ _ _ _ _ _ us hl => match us, hl with | [_, _], _ => rfl
  have U30 := fun_mk (st := top 47) l30 c30 k30
  have b30 := U30.binds (ps := ["by", "row"]) fun _ _ _ _ _ _ us hl => match us, hl with | [_, _], _ => rfl
  have U31 := fun_mk (st := top 48) l31 c31 k31
  have b31 := U31.binds (ps := ["row", "by"]) fun _ _ _ _ _ _ us hl => match us, hl with | [_, _], _ => rfl
  have U32 := fun_mk (st := top 49) l32 c32 k32
  have b32 := U32.binds (ps := ["row", "by"]) fun _ _ _ _ _ _ us hl => match us, hl with | [_, _], _ => rfl
  have U33 := fun_mk (st := top 50) l33 c33 k33
  have b33 := U33.binds (ps := ["one", "other"]) fun _ _ _ _ _ _ us hl => match us, hl with | [_, _], _ => rfl
  have U34 := fun_mk (st := top 51) l34 c34 k34
  have b34 := U34.binds (ps := ["row", "by"]) fun _ _ _ _ _ _ us hl => match us, hl with | [_, _], _ => rfl
  have U35 := fun_mk (st := top 54) l35 c35 k35
  have b35 := U35.binds (ps := ["number"]) fun _ _ _ _ _ _ us hl => match us, hl with | [_], _ => rfl
  have U36 := fun_mk (st := top 55) l36 c36 k36
  have b36 := U36.binds (ps := ["number"]) fun _ _ _ _ _ _ us hl => match us, hl with | [_], _ => rfl
  have U37 := fun_mk (st := top 56) l37 c37 k37
  have b37 := U37.binds (ps := ["row"]) fun _ _ _ _ _ _ us hl => match us, hl with | [_], _ => rfl
  have U38 := fun_mk (st := top 58) l38 c38 k38
  have b38 := U38.binds (ps := ["one", "other"]) fun _ _ _ _ _ _ us hl => match us, hl with | [_, _], _ => rfl
  have U39 := fun_mk (st := top 59) l39 c39 k39
  have b39 := U39.binds (ps := ["row"]) fun _ _ _ _ _ _ us hl => match us, hl with | [_], _ => rfl
  have U40 := fun_mk (st := top 60) l40 c40 k40
  have b40 := U40.binds (ps := ["row"]) fun _ _ _ _ _ _ us hl => match us, hl with | [_], _ => rfl
  have U41 := fun_mk (st := top 61) l41 c41 k41
  have b41 := U41.binds (ps := ["one", "other"]) fun _ _ _ _ _ _ us hl => match us, hl with | [_, _], _ => rfl
  have U42 := fun_mk (st := top 63) l42 c42 k42
  have b42 := U42.binds (ps := ["script"]) fun _ _ _ _ _ _ us hl => match us, hl with | [_], _ => rfl
  have U43 := fun_mk (st := top 64) l43 c43 k43
  have b43 := U43.binds (ps := ["pen", "many"]) fun _ _ _ _ _ _ us hl => match us, hl with | [_, _], _ => rfl
  have U44 := fun_mk (st := top 65) l44 c44 k44
  have b44 := U44.binds (ps := ["one", "two"]) fun _ _ _ _ _ _ us hl => match us, hl with | [_, _], _ => rfl
  have U45 := fun_mk (st := top 66) l45 c45 k45
  have b45 := U45.binds (ps := ["number"]) fun _ _ _ _ _ _ us hl => match us, hl with | [_], _ => rfl
  have U46 := fun_mk (st := top 67) l46 c46 k46
  have b46 := U46.binds (ps := ["script"]) fun _ _ _ _ _ _ us hl => match us, hl with | [_], _ => rfl
  refine ⟨PySem.W.fnOf "law" "law" (defArgs (top 67)) (defBody (top 67)) (defScope (top 67)) .none kV46 dc46 pm46 an46 cd46 ct46, fun s u => .of_eq rfl, fun base _ _ => ?_⟩
  have G0 : FnG l.prog w K mg base 1 f0 _ ["value"] F_is_whole := fn_ok (k := 0) (c := c_is_whole) (m := m_is_whole) U0 s_is_whole rfl rfl rfl e_is_whole (gl_cons ⟨PySem.W.mg_none_of X G z0, boot_isinstance⟩ (gl_cons ⟨PySem.W.mg_none_of X G z1, boot_int⟩ (gl_cons ⟨PySem.W.mg_none_of X G z2, boot_bool⟩ gl_nil)))
  have R1 : ∀ n : Nat, FnG l.prog w K mg base (0 + n) f1 _ ["value"] (F_in_tuples n) := fun n => by
    induction n with
    | zero => exact fnG_bad
    | succ n ih => exact fn_ok (c := c_in_tuples (F_in_tuples n)) (m := m_in_tuples (F_in_tuples n)) U1 s_in_tuples rfl rfl rfl (e_in_tuples _) (gl_cons ⟨PySem.W.mg_none_of X G z3, boot_tuple⟩ (gl_cons (gok_fn U1 b1 ih (Nat.le_refl _) (PySem.W.mg_of X G a0)) (gl_cons ⟨PySem.W.mg_none_of X G z0, boot_isinstance⟩ (gl_cons ⟨PySem.W.mg_none_of X G z4, boot_list⟩ gl_nil))))
  have G1 : FnG l.prog w K mg base 8 f1 _ ["value"] (F_in_tuples recN) := R1 8
  have G2 : FnG l.prog w K mg base 2 f2 _ ["what", "number", "low", "high"] F_need_between := fn_ok (k := 1) (c := c_need_between) (m := m_need_between) U2 s_need_between rfl rfl rfl e_need_between (gl_cons (gok_fn U0 b0 G0 (by decide) (PySem.W.mg_of X G a1)) gl_nil)
  have G3 : FnG l.prog w K mg base 2 f3 _ ["value"] F_is_pair := fn_ok (k := 1) (c := c_is_pair) (m := m_is_pair) U3 s_is_pair rfl rfl rfl e_is_pair (gl_cons (gok_fn U0 b0 G0 (by decide) (PySem.W.mg_of X G a1)) (gl_cons ⟨PySem.W.mg_none_of X G z0, boot_isinstance⟩ (gl_cons ⟨PySem.W.mg_none_of X G z4, boot_list⟩ (gl_cons ⟨PySem.W.mg_none_of X G z3, boot_tuple⟩ (gl_cons ⟨PySem.W.mg_none_of X G z5, boot_len⟩ gl_nil)))))
  have G4 : FnG l.prog w K mg base 3 f4 _ ["value"] F_is_ratio := fn_ok (k := 2) (c := c_is_ratio) (m := m_is_ratio) U4 s_is_ratio rfl rfl rfl e_is_ratio (gl_cons (gok_fn U0 b0 G0 (by decide) (PySem.W.mg_of X G a1)) (gl_cons ⟨PySem.W.mg_none_of X G z0, boot_isinstance⟩ (gl_cons ⟨PySem.W.mg_none_of X G z3, boot_tuple⟩ (gl_cons (gok_fn U3 b3 G3 (by decide) (PySem.W.mg_of X G a2)) gl_nil))))
  have G5 : FnG l.prog w K mg base 1 f5 _ ["top", "bottom"] F_lowest := fn_ok (k := 0) (c := c_lowest) (m := m_lowest) U5 s_lowest rfl rfl rfl e_lowest (gl_cons (PySem.W.mg_of X G w0) gl_nil)
  have G6 : FnG l.prog w K mg base 3 f6 _ ["ratio"] F_told := fn_ok (k := 2) (c := c_told) (m := m_told) U6 s_told rfl rfl rfl e_told (gl_cons (gok_fn U5 b5 G5 (by decide) (PySem.W.mg_of X G a3)) (gl_cons (gok_fn U3 b3 G3 (by decide) (PySem.W.mg_of X G a2)) (gl_cons (gok_fn U0 b0 G0 (by decide) (PySem.W.mg_of X G a1)) gl_nil)))
  have G7 : FnG l.prog w K mg base 2 f7 _ ["one", "other"] F_summed := fn_ok (k := 1) (c := c_summed) (m := m_summed) U7 s_summed rfl rfl rfl e_summed (gl_cons (gok_fn U5 b5 G5 (by decide) (PySem.W.mg_of X G a3)) gl_nil)
  have G8 : FnG l.prog w K mg base 2 f8 _ ["one", "other"] F_lessened := fn_ok (k := 1) (c := c_lessened) (m := m_lessened) U8 s_lessened rfl rfl rfl e_lessened (gl_cons (gok_fn U5 b5 G5 (by decide) (PySem.W.mg_of X G a3)) gl_nil)
  have G9 : FnG l.prog w K mg base 2 f9 _ ["one", "other"] F_scaled := fn_ok (k := 1) (c := c_scaled) (m := m_scaled) U9 s_scaled rfl rfl rfl e_scaled (gl_cons (gok_fn U5 b5 G5 (by decide) (PySem.W.mg_of X G a3)) gl_nil)
  have G10 : FnG l.prog w K mg base 2 f10 _ ["one", "other"] F_parted := fn_ok (k := 1) (c := c_parted) (m := m_parted) U10 s_parted rfl rfl rfl e_parted (gl_cons (gok_fn U5 b5 G5 (by decide) (PySem.W.mg_of X G a3)) gl_nil)
  have G11 : FnG l.prog w K mg base 1 f11 _ ["one"] F_turned_sign := fn_ok (k := 0) (c := c_turned_sign) (m := m_turned_sign) U11 s_turned_sign rfl rfl rfl e_turned_sign gl_nil
  have G12 : FnG l.prog w K mg base 1 f12 _ ["row"] F_trimmed := fn_ok (k := 0) (c := c_trimmed) (m := m_trimmed) U12 s_trimmed rfl rfl rfl e_trimmed (gl_cons ⟨PySem.W.mg_none_of X G z3, boot_tuple⟩ (gl_cons ⟨PySem.W.mg_none_of X G z5, boot_len⟩ (gl_cons ⟨PySem.W.mg_none_of X G z4, boot_list⟩ gl_nil)))
  have G13 : FnG l.prog w K mg base 3 f13 _ ["one", "other"] F_row_product__0 := fn_ok (k := 2) (c := c_row_product__0) (m := m_row_product__0) U13 s_row_product__0 rfl rfl rfl e_row_product__0 (gl_cons (gok_fn U12 b12 G12 (by decide) (PySem.W.mg_of X G a4)) (gl_cons ⟨PySem.W.mg_none_of X G z6, boot_enumerate⟩ (gl_cons (gok_fn U7 b7 G7 (by decide) (PySem.W.mg_of X G a5)) (gl_cons (gok_fn U9 b9 G9 (by decide) (PySem.W.mg_of X G a6)) (gl_cons ⟨_, .ref v0, PySem.W.mg_of X G g0, rfl, v0, [.int (0), .int (1)], rfl, .inr ⟨_, _, _, h0, rfl, rfl, (show 2 ≤ sizeLine by decide), (.cons ⟨_, rfl⟩ (.cons ⟨_, rfl⟩ .nil))⟩, ⟨_, _, rfl, rfl, ⟨_, _, rfl, rfl, rfl⟩⟩⟩ (gl_cons ⟨PySem.W.mg_none_of X G z5, boot_len⟩ gl_nil))))))
  have G14 : FnG l.prog w K mg base 3 f14 _ ["by", "row"] F_row_scaled := fn_ok (k := 2) (c := c_row_scaled) (m := m_row_scaled) U14 s_row_scaled rfl rfl rfl e_row_scaled (gl_cons (gok_fn U12 b12 G12 (by decide) (PySem.W.mg_of X G a4)) (gl_cons (gok_fn U9 b9 G9 (by decide) (PySem.W.mg_of X G a6)) gl_nil))
  have G15 : FnG l.prog w K mg base 2 f15 _ ["mask"] F_parts_of := fn_ok (k := 1) (c := c_parts_of) (m := m_parts_of) U15 s_parts_of rfl rfl rfl e_parts_of (gl_cons (gok_fn U12 b12 G12 (by decide) (PySem.W.mg_of X G a4)) gl_nil)
  have G16 : FnG l.prog w K mg base 3 f16 _ ["one", "other"] F_rest_of := fn_ok (k := 2) (c := c_rest_of) (m := m_rest_of) U16 s_rest_of rfl rfl rfl e_rest_of (gl_cons ⟨PySem.W.mg_none_of X G z3, boot_tuple⟩ (gl_cons ⟨PySem.W.mg_none_of X G z5, boot_len⟩ (gl_cons ⟨PySem.W.mg_none_of X G z4, boot_list⟩ (gl_cons (gok_fn U12 b12 G12 (by decide) (PySem.W.mg_of X G a4)) (gl_cons ⟨PySem.W.mg_none_of X G z6, boot_enumerate⟩ (gl_cons (gok_fn U8 b8 G8 (by decide) (PySem.W.mg_of X G a7)) (gl_cons (gok_fn U9 b9 G9 (by decide) (PySem.W.mg_of X G a6)) (gl_cons (gok_fn U10 b10 G10 (by decide) (PySem.W.mg_of X G a8)) gl_nil))))))))
  have G17 : FnG l.prog w K mg base 4 f17 _ ["one", "other"] F_common_of := fn_ok (k := 3) (c := c_common_of) (m := m_common_of) U17 s_common_of rfl rfl rfl e_common_of (gl_cons ⟨PySem.W.mg_none_of X G z5, boot_len⟩ (gl_cons (gok_fn U14 b14 G14 (by decide) (PySem.W.mg_of X G a9)) (gl_cons (gok_fn U10 b10 G10 (by decide) (PySem.W.mg_of X G a8)) (gl_cons ⟨_, .ref v1, PySem.W.mg_of X G g1, rfl, v1, [.int (1), .int (1)], rfl, .inr ⟨_, _, _, h1, rfl, rfl, (show 2 ≤ sizeLine by decide), (.cons ⟨_, rfl⟩ (.cons ⟨_, rfl⟩ .nil))⟩, ⟨_, _, rfl, rfl, ⟨_, _, rfl, rfl, rfl⟩⟩⟩ (gl_cons (gok_fn U16 b16 G16 (by decide) (PySem.W.mg_of X G a10)) gl_nil)))))
  have G18 : FnG l.prog w K mg base 2 f18 _ ["row"] F_opposite := fn_ok (k := 1) (c := c_opposite) (m := m_opposite) U18 s_opposite rfl rfl rfl e_opposite (gl_cons ⟨PySem.W.mg_none_of X G z3, boot_tuple⟩ (gl_cons ⟨PySem.W.mg_none_of X G z6, boot_enumerate⟩ (gl_cons (gok_fn U11 b11 G11 (by decide) (PySem.W.mg_of X G a11)) gl_nil)))
  have G19 : FnG l.prog w K mg base 9 f19 _ ["row"] F_row_passed := fn_ok (k := 8) (c := c_row_passed) (m := m_row_passed) U19 s_row_passed rfl rfl rfl e_row_passed (gl_cons (gok_fn U12 b12 G12 (by decide) (PySem.W.mg_of X G a4)) (gl_cons (gok_fn U6 b6 G6 (by decide) (PySem.W.mg_of X G a12)) (gl_cons ⟨PySem.W.mg_none_of X G z0, boot_isinstance⟩ (gl_cons ⟨PySem.W.mg_none_of X G z3, boot_tuple⟩ (gl_cons ⟨PySem.W.mg_none_of X G z7, boot_all⟩ (gl_cons (gok_fn U4 b4 G4 (by decide) (PySem.W.mg_of X G a13)) (gl_cons (gok_fn U1 b1 G1 (by decide) (PySem.W.mg_of X G a0)) gl_nil)))))))
  have G20 : FnG l.prog w K mg base 3 f20 _ ["one", "other"] F_row_sum_by := fn_ok (k := 2) (c := c_row_sum_by) (m := m_row_sum_by) U20 s_row_sum_by rfl rfl rfl e_row_sum_by (gl_cons (gok_fn U12 b12 G12 (by decide) (PySem.W.mg_of X G a4)) (gl_cons ⟨PySem.W.mg_none_of X G z4, boot_list⟩ (gl_cons ⟨PySem.W.mg_none_of X G z5, boot_len⟩ (gl_cons ⟨PySem.W.mg_none_of X G z8, boot_zip⟩ (gl_cons (gok_fn U7 b7 G7 (by decide) (PySem.W.mg_of X G a5)) gl_nil)))))
  have G21 : FnG l.prog w K mg base 1 f21 _ ["row", "many"] F_behind_by := fn_ok (k := 0) (c := c_behind_by) (m := m_behind_by) U21 s_behind_by rfl rfl rfl e_behind_by (gl_cons ⟨PySem.W.mg_none_of X G z5, boot_len⟩ (gl_cons ⟨_, .ref v0, PySem.W.mg_of X G g0, rfl, v0, [.int (0), .int (1)], rfl, .inr ⟨_, _, _, h0, rfl, rfl, (show 2 ≤ sizeLine by decide), (.cons ⟨_, rfl⟩ (.cons ⟨_, rfl⟩ .nil))⟩, ⟨_, _, rfl, rfl, ⟨_, _, rfl, rfl, rfl⟩⟩⟩ gl_nil))
  have G22 : FnG l.prog w K mg base 2 f22 _ ["row", "many"] F_stretched_by := fn_ok (k := 1) (c := c_stretched_by) (m := m_stretched_by) U22 s_stretched_by rfl rfl rfl e_stretched_by (gl_cons (gok_fn U12 b12 G12 (by decide) (PySem.W.mg_of X G a4)) (gl_cons ⟨_, .ref v0, PySem.W.mg_of X G g0, rfl, v0, [.int (0), .int (1)], rfl, .inr ⟨_, _, _, h0, rfl, rfl, (show 2 ≤ sizeLine by decide), (.cons ⟨_, rfl⟩ (.cons ⟨_, rfl⟩ .nil))⟩, ⟨_, _, rfl, rfl, ⟨_, _, rfl, rfl, rfl⟩⟩⟩ gl_nil))
  have G23 : FnG l.prog w K mg base 10 f23 _ ["one", "other"] F_row_sum := fn_ok (k := 9) (c := c_row_sum) (m := m_row_sum) U23 s_row_sum rfl rfl rfl e_row_sum (gl_cons (gok_fn U20 b20 G20 (by decide) (PySem.W.mg_of X G a14)) (gl_cons (gok_fn U19 b19 G19 (by decide) (PySem.W.mg_of X G a15)) gl_nil))
  have G24 : FnG l.prog w K mg base 10 f24 _ ["one", "other"] F_row_product := fn_ok (k := 9) (c := c_row_product) (m := m_row_product) U24 s_row_product rfl rfl rfl e_row_product (gl_cons (gok_fn U13 b13 G13 (by decide) (PySem.W.mg_of X G a16)) (gl_cons (gok_fn U19 b19 G19 (by decide) (PySem.W.mg_of X G a15)) gl_nil))
  have G25 : FnG l.prog w K mg base 10 f25 _ ["row", "many"] F_row_behind := fn_ok (k := 9) (c := c_row_behind) (m := m_row_behind) U25 s_row_behind rfl rfl rfl e_row_behind (gl_cons (gok_fn U21 b21 G21 (by decide) (PySem.W.mg_of X G a17)) (gl_cons (gok_fn U2 b2 G2 (by decide) (PySem.W.mg_of X G a18)) (gl_cons ⟨_, .int (16), PySem.W.mg_of X G g2, ⟨_, rfl⟩, rfl⟩ (gl_cons (gok_fn U19 b19 G19 (by decide) (PySem.W.mg_of X G a15)) gl_nil))))
  have G26 : FnG l.prog w K mg base 10 f26 _ ["row", "many"] F_stretched := fn_ok (k := 9) (c := c_stretched) (m := m_stretched) U26 s_stretched rfl rfl rfl e_stretched (gl_cons (gok_fn U22 b22 G22 (by decide) (PySem.W.mg_of X G a19)) (gl_cons (gok_fn U2 b2 G2 (by decide) (PySem.W.mg_of X G a18)) (gl_cons ⟨_, .int (8), PySem.W.mg_of X G g3, ⟨_, rfl⟩, rfl⟩ (gl_cons (gok_fn U19 b19 G19 (by decide) (PySem.W.mg_of X G a15)) gl_nil))))
  have G27 : FnG l.prog w K mg base 10 f27 _ ["row"] F_signed := fn_ok (k := 9) (c := c_signed) (m := m_signed) U27 s_signed rfl rfl rfl e_signed (gl_cons (gok_fn U18 b18 G18 (by decide) (PySem.W.mg_of X G a20)) (gl_cons (gok_fn U19 b19 G19 (by decide) (PySem.W.mg_of X G a15)) gl_nil))
  have G28 : FnG l.prog w K mg base 10 f28 _ ["row"] F_back_row := fn_ok (k := 9) (c := c_back_row) (m := m_back_row) U28 s_back_row rfl rfl rfl e_back_row (gl_cons (gok_fn U12 b12 G12 (by decide) (PySem.W.mg_of X G a4)) (gl_cons (gok_fn U19 b19 G19 (by decide) (PySem.W.mg_of X G a15)) gl_nil))
  have G29 : FnG l.prog w K mg base 3 f29 _ ["row", "by"] F_shared_by := fn_ok (k := 2) (c := c_shared_by) (m := m_shared_by) U29 s_shared_by rfl rfl rfl e_shared_by (gl_cons ⟨PySem.W.mg_none_of X G z3, boot_tuple⟩ (gl_cons (gok_fn U12 b12 G12 (by decide) (PySem.W.mg_of X G a4)) (gl_cons ⟨PySem.W.mg_none_of X G z5, boot_len⟩ (gl_cons ⟨PySem.W.mg_none_of X G z4, boot_list⟩ (gl_cons ⟨PySem.W.mg_none_of X G z6, boot_enumerate⟩ (gl_cons (gok_fn U8 b8 G8 (by decide) (PySem.W.mg_of X G a7)) (gl_cons (gok_fn U9 b9 G9 (by decide) (PySem.W.mg_of X G a6)) (gl_cons (gok_fn U10 b10 G10 (by decide) (PySem.W.mg_of X G a8)) (gl_cons ⟨_, .ref v0, PySem.W.mg_of X G g0, rfl, v0, [.int (0), .int (1)], rfl, .inr ⟨_, _, _, h0, rfl, rfl, (show 2 ≤ sizeLine by decide), (.cons ⟨_, rfl⟩ (.cons ⟨_, rfl⟩ .nil))⟩, ⟨_, _, rfl, rfl, ⟨_, _, rfl, rfl, rfl⟩⟩⟩ (gl_cons ⟨PySem.W.mg_none_of X G z9, boot_max⟩ gl_nil))))))))))
  have G30 : FnG l.prog w K mg base 4 f30 _ ["by", "row"] F_divides := fn_ok (k := 3) (c := c_divides) (m := m_divides) U30 s_divides rfl rfl rfl e_divides (gl_cons (gok_fn U29 b29 G29 (by decide) (PySem.W.mg_of X G a21)) gl_nil)
  have G31 : FnG l.prog w K mg base 4 f31 _ ["row", "by"] F_times_by := fn_ok (k := 3) (c := c_times_by) (m := m_times_by) U31 s_times_by rfl rfl rfl e_times_by (gl_cons (gok_fn U29 b29 G29 (by decide) (PySem.W.mg_of X G a21)) gl_nil)
  have G32 : FnG l.prog w K mg base 10 f32 _ ["row", "by"] F_shared_out := fn_ok (k := 9) (c := c_shared_out) (m := m_shared_out) U32 s_shared_out rfl rfl rfl e_shared_out (gl_cons (gok_fn U29 b29 G29 (by decide) (PySem.W.mg_of X G a21)) (gl_cons (gok_fn U19 b19 G19 (by decide) (PySem.W.mg_of X G a15)) gl_nil))
  have G33 : FnG l.prog w K mg base 10 f33 _ ["one", "other"] F_common := fn_ok (k := 9) (c := c_common) (m := m_common) U33 s_common rfl rfl rfl e_common (gl_cons (gok_fn U17 b17 G17 (by decide) (PySem.W.mg_of X G a22)) (gl_cons (gok_fn U19 b19 G19 (by decide) (PySem.W.mg_of X G a15)) gl_nil))
  have G34 : FnG l.prog w K mg base 10 f34 _ ["row", "by"] F_times_in := fn_ok (k := 9) (c := c_times_in) (m := m_times_in) U34 s_times_in rfl rfl rfl e_times_in (gl_cons (gok_fn U31 b31 G31 (by decide) (PySem.W.mg_of X G a23)) (gl_cons ⟨PySem.W.mg_none_of X G z5, boot_len⟩ (gl_cons (gok_fn U19 b19 G19 (by decide) (PySem.W.mg_of X G a15)) gl_nil)))
  have G35 : FnG l.prog w K mg base 4 f35 _ ["number"] F_ring_by := fn_ok (k := 3) (c := c_ring_by) (m := m_ring_by) U35 s_ring_by rfl rfl rfl e_ring_by (gl_cons ⟨PySem.W.mg_none_of X G z1, boot_int⟩ (gl_cons (gok_fn U29 b29 G29 (by decide) (PySem.W.mg_of X G a21)) (gl_cons (gok_fn U22 b22 G22 (by decide) (PySem.W.mg_of X G a19)) (gl_cons ⟨_, .ref v1, PySem.W.mg_of X G g1, rfl, v1, [.int (1), .int (1)], rfl, .inr ⟨_, _, _, h1, rfl, rfl, (show 2 ≤ sizeLine by decide), (.cons ⟨_, rfl⟩ (.cons ⟨_, rfl⟩ .nil))⟩, ⟨_, _, rfl, rfl, ⟨_, _, rfl, rfl, rfl⟩⟩⟩ gl_nil))))
  have G36 : FnG l.prog w K mg base 5 f36 _ ["number"] F_ring_row := fn_ok (k := 4) (c := c_ring_row) (m := m_ring_row) U36 s_ring_row rfl rfl rfl e_ring_row (gl_cons (gok_fn U35 b35 G35 (by decide) (PySem.W.mg_of X G a24)) (gl_cons (gok_fn U2 b2 G2 (by decide) (PySem.W.mg_of X G a18)) (gl_cons ⟨_, .int (60), PySem.W.mg_of X G g4, ⟨_, rfl⟩, rfl⟩ gl_nil)))
  have G37 : FnG l.prog w K mg base 10 f37 _ ["row"] F_rings_in := fn_ok (k := 9) (c := c_rings_in) (m := m_rings_in) U37 s_rings_in rfl rfl rfl e_rings_in (gl_cons ⟨PySem.W.mg_none_of X G z3, boot_tuple⟩ (gl_cons ⟨PySem.W.mg_none_of X G z10, boot_range⟩ (gl_cons ⟨_, .int (60), PySem.W.mg_of X G g4, ⟨_, rfl⟩, rfl⟩ (gl_cons ⟨PySem.W.mg_none_of X G z5, boot_len⟩ (gl_cons (gok_fn U30 b30 G30 (by decide) (PySem.W.mg_of X G a25)) (gl_cons (gok_fn U31 b31 G31 (by decide) (PySem.W.mg_of X G a23)) (gl_cons (gok_fn U35 b35 G35 (by decide) (PySem.W.mg_of X G a24)) (gl_cons (gok_fn U19 b19 G19 (by decide) (PySem.W.mg_of X G a15)) gl_nil))))))))
  have G38 : FnG l.prog w K mg base 2 f38 _ ["one", "other"] F_woven_by := fn_ok (k := 1) (c := c_woven_by) (m := m_woven_by) U38 s_woven_by rfl rfl rfl e_woven_by (gl_cons (gok_fn U12 b12 G12 (by decide) (PySem.W.mg_of X G a4)) (gl_cons ⟨PySem.W.mg_none_of X G z10, boot_range⟩ (gl_cons ⟨PySem.W.mg_none_of X G z4, boot_list⟩ (gl_cons ⟨_, .ref v0, PySem.W.mg_of X G g0, rfl, v0, [.int (0), .int (1)], rfl, .inr ⟨_, _, _, h0, rfl, rfl, (show 2 ≤ sizeLine by decide), (.cons ⟨_, rfl⟩ (.cons ⟨_, rfl⟩ .nil))⟩, ⟨_, _, rfl, rfl, ⟨_, _, rfl, rfl, rfl⟩⟩⟩ (gl_cons ⟨PySem.W.mg_none_of X G z5, boot_len⟩ (gl_cons ⟨PySem.W.mg_none_of X G z9, boot_max⟩ gl_nil))))))
  have G39 : FnG l.prog w K mg base 10 f39 _ ["row"] F_even_half := fn_ok (k := 9) (c := c_even_half) (m := m_even_half) U39 s_even_half rfl rfl rfl e_even_half (gl_cons (gok_fn U15 b15 G15 (by decide) (PySem.W.mg_of X G a26)) (gl_cons (gok_fn U19 b19 G19 (by decide) (PySem.W.mg_of X G a15)) gl_nil))
  have G40 : FnG l.prog w K mg base 10 f40 _ ["row"] F_odd_half := fn_ok (k := 9) (c := c_odd_half) (m := m_odd_half) U40 s_odd_half rfl rfl rfl e_odd_half (gl_cons (gok_fn U15 b15 G15 (by decide) (PySem.W.mg_of X G a26)) (gl_cons (gok_fn U19 b19 G19 (by decide) (PySem.W.mg_of X G a15)) gl_nil))
  have G41 : FnG l.prog w K mg base 10 f41 _ ["one", "other"] F_woven := fn_ok (k := 9) (c := c_woven) (m := m_woven) U41 s_woven rfl rfl rfl e_woven (gl_cons (gok_fn U38 b38 G38 (by decide) (PySem.W.mg_of X G a27)) (gl_cons (gok_fn U19 b19 G19 (by decide) (PySem.W.mg_of X G a15)) gl_nil))
  have G42 : FnG l.prog w K mg base 1 f42 _ ["script"] F_law_pen := fn_ok (k := 0) (c := c_law_pen) (m := m_law_pen) U42 s_law_pen rfl rfl rfl e_law_pen (gl_cons ⟨PySem.W.mg_none_of X G z4, boot_list⟩ (gl_cons ⟨PySem.W.mg_none_of X G z1, boot_int⟩ gl_nil))
  have G43 : FnG l.prog w K mg base 1 f43 _ ["pen", "many"] F_law_draw := fn_ok (k := 0) (c := c_law_draw) (m := m_law_draw) U43 s_law_draw rfl rfl rfl e_law_draw (gl_cons ⟨PySem.W.mg_none_of X G z1, boot_int⟩ (gl_cons ⟨PySem.W.mg_none_of X G z5, boot_len⟩ gl_nil))
  have G44 : FnG l.prog w K mg base 1 f44 _ ["one", "two"] F_law_gcd := fn_ok (k := 0) (c := c_law_gcd) (m := m_law_gcd) U44 s_law_gcd rfl rfl rfl e_law_gcd (gl_cons ⟨PySem.W.mg_none_of X G z10, boot_range⟩ (gl_cons ⟨PySem.W.mg_none_of X G z1, boot_int⟩ (gl_cons ⟨PySem.W.mg_none_of X G z11, boot_abs⟩ gl_nil)))
  have G45 : FnG l.prog w K mg base 1 f45 _ ["number"] F_law_power_less := fn_ok (k := 0) (c := c_law_power_less) (m := m_law_power_less) U45 s_law_power_less rfl rfl rfl e_law_power_less gl_nil
  have G46 : FnG l.prog w K mg base 11 f46 _ ["script"] F_law := fn_ok (k := 10) (c := c_law) (m := m_law) U46 s_law rfl rfl rfl e_law (gl_cons ⟨PySem.W.mg_none_of X G z10, boot_range⟩ (gl_cons (gok_fn U28 b28 G28 (by decide) (PySem.W.mg_of X G a28)) (gl_cons (gok_fn U26 b26 G26 (by decide) (PySem.W.mg_of X G a29)) (gl_cons (gok_fn U41 b41 G41 (by decide) (PySem.W.mg_of X G a30)) (gl_cons (gok_fn U40 b40 G40 (by decide) (PySem.W.mg_of X G a31)) (gl_cons (gok_fn U39 b39 G39 (by decide) (PySem.W.mg_of X G a32)) (gl_cons (gok_fn U23 b23 G23 (by decide) (PySem.W.mg_of X G a33)) (gl_cons (gok_fn U25 b25 G25 (by decide) (PySem.W.mg_of X G a34)) (gl_cons (gok_fn U37 b37 G37 (by decide) (PySem.W.mg_of X G a35)) (gl_cons ⟨PySem.W.mg_none_of X G z3, boot_tuple⟩ (gl_cons (gok_fn U34 b34 G34 (by decide) (PySem.W.mg_of X G a36)) (gl_cons (gok_fn U36 b36 G36 (by decide) (PySem.W.mg_of X G a37)) (gl_cons (gok_fn U24 b24 G24 (by decide) (PySem.W.mg_of X G a38)) (gl_cons ⟨PySem.W.mg_none_of X G z1, boot_int⟩ (gl_cons (gok_fn U33 b33 G33 (by decide) (PySem.W.mg_of X G a39)) (gl_cons (gok_fn U45 b45 G45 (by decide) (PySem.W.mg_of X G a40)) (gl_cons (gok_fn U44 b44 G44 (by decide) (PySem.W.mg_of X G a41)) (gl_cons (gok_fn U32 b32 G32 (by decide) (PySem.W.mg_of X G a42)) (gl_cons (gok_fn U27 b27 G27 (by decide) (PySem.W.mg_of X G a43)) (gl_cons (gok_fn U43 b43 G43 (by decide) (PySem.W.mg_of X G a44)) (gl_cons (gok_fn U42 b42 G42 (by decide) (PySem.W.mg_of X G a45)) gl_nil)))))))))))))))))))))
  exact G46
end K21
end FL
set_option Elab.async false
set_option linter.all false
set_option maxRecDepth 100000
set_option maxHeartbeats 0
namespace FL
namespace K21
open PySem PySem.Spec L2
open PyProof.Rows hiding St
def rowD (cs : List Int) : FL.D := .tup (cs.map fun c => .tup [.int c, .int 1])
theorem ring_1 : F_ring_by [.d (.int 1)] = .ok (.d (rowD [-1, 1])) [.d .non] := by kernel_rfl
theorem ring_2 : F_ring_by [.d (.int 2)] = .ok (.d (rowD [1, 1])) [.d .non] := by kernel_rfl
theorem ring_3 : F_ring_by [.d (.int 3)] = .ok (.d (rowD [1, 1, 1])) [.d .non] := by kernel_rfl
theorem ring_4 : F_ring_by [.d (.int 4)] = .ok (.d (rowD [1, 0, 1])) [.d .non] := by kernel_rfl
theorem ring_5 : F_ring_by [.d (.int 5)] = .ok (.d (rowD [1, 1, 1, 1, 1])) [.d .non] := by kernel_rfl
theorem ring_6 : F_ring_by [.d (.int 6)] = .ok (.d (rowD [1, -1, 1])) [.d .non] := by kernel_rfl
theorem ring_7 : F_ring_by [.d (.int 7)] = .ok (.d (rowD [1, 1, 1, 1, 1, 1, 1])) [.d .non] := by kernel_rfl
theorem ring_8 : F_ring_by [.d (.int 8)] = .ok (.d (rowD [1, 0, 0, 0, 1])) [.d .non] := by kernel_rfl
theorem ring_9 : F_ring_by [.d (.int 9)] = .ok (.d (rowD [1, 0, 0, 1, 0, 0, 1])) [.d .non] := by kernel_rfl
theorem ring_10 : F_ring_by [.d (.int 10)] = .ok (.d (rowD [1, -1, 1, -1, 1])) [.d .non] := by kernel_rfl
theorem ring_11 : F_ring_by [.d (.int 11)] = .ok (.d (rowD [1, 1, 1, 1, 1, 1, 1, 1, 1, 1, 1])) [.d .non] := by kernel_rfl
theorem ring_12 : F_ring_by [.d (.int 12)] = .ok (.d (rowD [1, 0, -1, 0, 1])) [.d .non] := by kernel_rfl
theorem ring_13 : F_ring_by [.d (.int 13)] = .ok (.d (rowD [1, 1, 1, 1, 1, 1, 1, 1, 1, 1, 1, 1, 1])) [.d .non] := by kernel_rfl
theorem ring_14 : F_ring_by [.d (.int 14)] = .ok (.d (rowD [1, -1, 1, -1, 1, -1, 1])) [.d .non] := by kernel_rfl
theorem ring_15 : F_ring_by [.d (.int 15)] = .ok (.d (rowD [1, -1, 0, 1, -1, 1, 0, -1, 1])) [.d .non] := by kernel_rfl
theorem ring_16 : F_ring_by [.d (.int 16)] = .ok (.d (rowD [1, 0, 0, 0, 0, 0, 0, 0, 1])) [.d .non] := by kernel_rfl
theorem ring_17 : F_ring_by [.d (.int 17)] = .ok (.d (rowD [1, 1, 1, 1, 1, 1, 1, 1, 1, 1, 1, 1, 1, 1, 1, 1, 1])) [.d .non] := by kernel_rfl
theorem ring_18 : F_ring_by [.d (.int 18)] = .ok (.d (rowD [1, 0, 0, -1, 0, 0, 1])) [.d .non] := by kernel_rfl
theorem ring_19 : F_ring_by [.d (.int 19)] = .ok (.d (rowD [1, 1, 1, 1, 1, 1, 1, 1, 1, 1, 1, 1, 1, 1, 1, 1, 1, 1, 1])) [.d .non] := by kernel_rfl
theorem ring_20 : F_ring_by [.d (.int 20)] = .ok (.d (rowD [1, 0, -1, 0, 1, 0, -1, 0, 1])) [.d .non] := by kernel_rfl
theorem ring_21 : F_ring_by [.d (.int 21)] = .ok (.d (rowD [1, -1, 0, 1, -1, 0, 1, 0, -1, 1, 0, -1, 1])) [.d .non] := by kernel_rfl
theorem ring_22 : F_ring_by [.d (.int 22)] = .ok (.d (rowD [1, -1, 1, -1, 1, -1, 1, -1, 1, -1, 1])) [.d .non] := by kernel_rfl
theorem ring_23 : F_ring_by [.d (.int 23)] = .ok (.d (rowD [1, 1, 1, 1, 1, 1, 1, 1, 1, 1, 1, 1, 1, 1, 1, 1, 1, 1, 1, 1, 1, 1, 1])) [.d .non] := by kernel_rfl
theorem ring_24 : F_ring_by [.d (.int 24)] = .ok (.d (rowD [1, 0, 0, 0, -1, 0, 0, 0, 1])) [.d .non] := by kernel_rfl
theorem ring_25 : F_ring_by [.d (.int 25)] = .ok (.d (rowD [1, 0, 0, 0, 0, 1, 0, 0, 0, 0, 1, 0, 0, 0, 0, 1, 0, 0, 0, 0, 1])) [.d .non] := by kernel_rfl
theorem ring_26 : F_ring_by [.d (.int 26)] = .ok (.d (rowD [1, -1, 1, -1, 1, -1, 1, -1, 1, -1, 1, -1, 1])) [.d .non] := by kernel_rfl
theorem ring_27 : F_ring_by [.d (.int 27)] = .ok (.d (rowD [1, 0, 0, 0, 0, 0, 0, 0, 0, 1, 0, 0, 0, 0, 0, 0, 0, 0, 1])) [.d .non] := by kernel_rfl
theorem ring_28 : F_ring_by [.d (.int 28)] = .ok (.d (rowD [1, 0, -1, 0, 1, 0, -1, 0, 1, 0, -1, 0, 1])) [.d .non] := by kernel_rfl
theorem ring_29 : F_ring_by [.d (.int 29)] = .ok (.d (rowD [1, 1, 1, 1, 1, 1, 1, 1, 1, 1, 1, 1, 1, 1, 1, 1, 1, 1, 1, 1, 1, 1, 1, 1, 1, 1, 1, 1, 1])) [.d .non] := by kernel_rfl
theorem ring_30 : F_ring_by [.d (.int 30)] = .ok (.d (rowD [1, 1, 0, -1, -1, -1, 0, 1, 1])) [.d .non] := by kernel_rfl
theorem ring_31 : F_ring_by [.d (.int 31)] = .ok (.d (rowD [1, 1, 1, 1, 1, 1, 1, 1, 1, 1, 1, 1, 1, 1, 1, 1, 1, 1, 1, 1, 1, 1, 1, 1, 1, 1, 1, 1, 1, 1, 1])) [.d .non] := by kernel_rfl
theorem ring_32 : F_ring_by [.d (.int 32)] = .ok (.d (rowD [1, 0, 0, 0, 0, 0, 0, 0, 0, 0, 0, 0, 0, 0, 0, 0, 1])) [.d .non] := by kernel_rfl
theorem ring_33 : F_ring_by [.d (.int 33)] = .ok (.d (rowD [1, -1, 0, 1, -1, 0, 1, -1, 0, 1, -1, 1, 0, -1, 1, 0, -1, 1, 0, -1, 1])) [.d .non] := by kernel_rfl
theorem ring_34 : F_ring_by [.d (.int 34)] = .ok (.d (rowD [1, -1, 1, -1, 1, -1, 1, -1, 1, -1, 1, -1, 1, -1, 1, -1, 1])) [.d .non] := by kernel_rfl
theorem ring_35 : F_ring_by [.d (.int 35)] = .ok (.d (rowD [1, -1, 0, 0, 0, 1, -1, 1, -1, 0, 1, -1, 1, -1, 1, 0, -1, 1, -1, 1, 0, 0, 0, -1, 1])) [.d .non] := by kernel_rfl
theorem ring_36 : F_ring_by [.d (.int 36)] = .ok (.d (rowD [1, 0, 0, 0, 0, 0, -1, 0, 0, 0, 0, 0, 1])) [.d .non] := by kernel_rfl
theorem ring_37 : F_ring_by [.d (.int 37)] = .ok (.d (rowD [1, 1, 1, 1, 1, 1, 1, 1, 1, 1, 1, 1, 1, 1, 1, 1, 1, 1, 1, 1, 1, 1, 1, 1, 1, 1, 1, 1, 1, 1, 1, 1, 1, 1, 1, 1, 1])) [.d .non] := by kernel_rfl
theorem ring_38 : F_ring_by [.d (.int 38)] = .ok (.d (rowD [1, -1, 1, -1, 1, -1, 1, -1, 1, -1, 1, -1, 1, -1, 1, -1, 1, -1, 1])) [.d .non] := by kernel_rfl
theorem ring_39 : F_ring_by [.d (.int 39)] = .ok (.d (rowD [1, -1, 0, 1, -1, 0, 1, -1, 0, 1, -1, 0, 1, 0, -1, 1, 0, -1, 1, 0, -1, 1, 0, -1, 1])) [.d .non] := by kernel_rfl
theorem ring_40 : F_ring_by [.d (.int 40)] = .ok (.d (rowD [1, 0, 0, 0, -1, 0, 0, 0, 1, 0, 0, 0, -1, 0, 0, 0, 1])) [.d .non] := by kernel_rfl
theorem ring_41 : F_ring_by [.d (.int 41)] = .ok (.d (rowD [1, 1, 1, 1, 1, 1, 1, 1, 1, 1, 1, 1, 1, 1, 1, 1, 1, 1, 1, 1, 1, 1, 1, 1, 1, 1, 1, 1, 1, 1, 1, 1, 1, 1, 1, 1, 1, 1, 1, 1, 1])) [.d .non] := by kernel_rfl
theorem ring_42 : F_ring_by [.d (.int 42)] = .ok (.d (rowD [1, 1, 0, -1, -1, 0, 1, 0, -1, -1, 0, 1, 1])) [.d .non] := by kernel_rfl
theorem ring_43 : F_ring_by [.d (.int 43)] = .ok (.d (rowD [1, 1, 1, 1, 1, 1, 1, 1, 1, 1, 1, 1, 1, 1, 1, 1, 1, 1, 1, 1, 1, 1, 1, 1, 1, 1, 1, 1, 1, 1, 1, 1, 1, 1, 1, 1, 1, 1, 1, 1, 1, 1, 1])) [.d .non] := by kernel_rfl
theorem ring_44 : F_ring_by [.d (.int 44)] = .ok (.d (rowD [1, 0, -1, 0, 1, 0, -1, 0, 1, 0, -1, 0, 1, 0, -1, 0, 1, 0, -1, 0, 1])) [.d .non] := by kernel_rfl
theorem ring_45 : F_ring_by [.d (.int 45)] = .ok (.d (rowD [1, 0, 0, -1, 0, 0, 0, 0, 0, 1, 0, 0, -1, 0, 0, 1, 0, 0, 0, 0, 0, -1, 0, 0, 1])) [.d .non] := by kernel_rfl
theorem ring_46 : F_ring_by [.d (.int 46)] = .ok (.d (rowD [1, -1, 1, -1, 1, -1, 1, -1, 1, -1, 1, -1, 1, -1, 1, -1, 1, -1, 1, -1, 1, -1, 1])) [.d .non] := by kernel_rfl
theorem ring_47 : F_ring_by [.d (.int 47)] = .ok (.d (rowD [1, 1, 1, 1, 1, 1, 1, 1, 1, 1, 1, 1, 1, 1, 1, 1, 1, 1, 1, 1, 1, 1, 1, 1, 1, 1, 1, 1, 1, 1, 1, 1, 1, 1, 1, 1, 1, 1, 1, 1, 1, 1, 1, 1, 1, 1, 1])) [.d .non] := by kernel_rfl
theorem ring_48 : F_ring_by [.d (.int 48)] = .ok (.d (rowD [1, 0, 0, 0, 0, 0, 0, 0, -1, 0, 0, 0, 0, 0, 0, 0, 1])) [.d .non] := by kernel_rfl
theorem ring_49 : F_ring_by [.d (.int 49)] = .ok (.d (rowD [1, 0, 0, 0, 0, 0, 0, 1, 0, 0, 0, 0, 0, 0, 1, 0, 0, 0, 0, 0, 0, 1, 0, 0, 0, 0, 0, 0, 1, 0, 0, 0, 0, 0, 0, 1, 0, 0, 0, 0, 0, 0, 1])) [.d .non] := by kernel_rfl
theorem ring_50 : F_ring_by [.d (.int 50)] = .ok (.d (rowD [1, 0, 0, 0, 0, -1, 0, 0, 0, 0, 1, 0, 0, 0, 0, -1, 0, 0, 0, 0, 1])) [.d .non] := by kernel_rfl
theorem ring_51 : F_ring_by [.d (.int 51)] = .ok (.d (rowD [1, -1, 0, 1, -1, 0, 1, -1, 0, 1, -1, 0, 1, -1, 0, 1, -1, 1, 0, -1, 1, 0, -1, 1, 0, -1, 1, 0, -1, 1, 0, -1, 1])) [.d .non] := by kernel_rfl
theorem ring_52 : F_ring_by [.d (.int 52)] = .ok (.d (rowD [1, 0, -1, 0, 1, 0, -1, 0, 1, 0, -1, 0, 1, 0, -1, 0, 1, 0, -1, 0, 1, 0, -1, 0, 1])) [.d .non] := by kernel_rfl
theorem ring_53 : F_ring_by [.d (.int 53)] = .ok (.d (rowD [1, 1, 1, 1, 1, 1, 1, 1, 1, 1, 1, 1, 1, 1, 1, 1, 1, 1, 1, 1, 1, 1, 1, 1, 1, 1, 1, 1, 1, 1, 1, 1, 1, 1, 1, 1, 1, 1, 1, 1, 1, 1, 1, 1, 1, 1, 1, 1, 1, 1, 1, 1, 1])) [.d .non] := by kernel_rfl
theorem ring_54 : F_ring_by [.d (.int 54)] = .ok (.d (rowD [1, 0, 0, 0, 0, 0, 0, 0, 0, -1, 0, 0, 0, 0, 0, 0, 0, 0, 1])) [.d .non] := by kernel_rfl
theorem ring_55 : F_ring_by [.d (.int 55)] = .ok (.d (rowD [1, -1, 0, 0, 0, 1, -1, 0, 0, 0, 1, 0, -1, 0, 0, 1, 0, -1, 0, 0, 1, 0, 0, -1, 0, 1, 0, 0, -1, 0, 1, 0, 0, 0, -1, 1, 0, 0, 0, -1, 1])) [.d .non] := by kernel_rfl
theorem ring_56 : F_ring_by [.d (.int 56)] = .ok (.d (rowD [1, 0, 0, 0, -1, 0, 0, 0, 1, 0, 0, 0, -1, 0, 0, 0, 1, 0, 0, 0, -1, 0, 0, 0, 1])) [.d .non] := by kernel_rfl
theorem ring_57 : F_ring_by [.d (.int 57)] = .ok (.d (rowD [1, -1, 0, 1, -1, 0, 1, -1, 0, 1, -1, 0, 1, -1, 0, 1, -1, 0, 1, 0, -1, 1, 0, -1, 1, 0, -1, 1, 0, -1, 1, 0, -1, 1, 0, -1, 1])) [.d .non] := by kernel_rfl
theorem ring_58 : F_ring_by [.d (.int 58)] = .ok (.d (rowD [1, -1, 1, -1, 1, -1, 1, -1, 1, -1, 1, -1, 1, -1, 1, -1, 1, -1, 1, -1, 1, -1, 1, -1, 1, -1, 1, -1, 1])) [.d .non] := by kernel_rfl
theorem ring_59 : F_ring_by [.d (.int 59)] = .ok (.d (rowD [1, 1, 1, 1, 1, 1, 1, 1, 1, 1, 1, 1, 1, 1, 1, 1, 1, 1, 1, 1, 1, 1, 1, 1, 1, 1, 1, 1, 1, 1, 1, 1, 1, 1, 1, 1, 1, 1, 1, 1, 1, 1, 1, 1, 1, 1, 1, 1, 1, 1, 1, 1, 1, 1, 1, 1, 1, 1, 1])) [.d .non] := by kernel_rfl
theorem ring_60 : F_ring_by [.d (.int 60)] = .ok (.d (rowD [1, 0, 1, 0, 0, 0, -1, 0, -1, 0, -1, 0, 0, 0, 1, 0, 1])) [.d .non] := by kernel_rfl
end K21
end FL
set_option Elab.async false
set_option linter.all false
set_option maxRecDepth 100000
set_option maxHeartbeats 0
namespace FL
namespace K21
open PySem PySem.Spec L2
open PyProof.Rows hiding St
def ringL : List (List Int) := [[-1, 1], [1, 1], [1, 1, 1], [1, 0, 1], [1, 1, 1, 1, 1], [1, -1, 1], [1, 1, 1, 1, 1, 1, 1], [1, 0, 0, 0, 1], [1, 0, 0, 1, 0, 0, 1], [1, -1, 1, -1, 1], [1, 1, 1, 1, 1, 1, 1, 1, 1, 1, 1], [1, 0, -1, 0, 1], [1, 1, 1, 1, 1, 1, 1, 1, 1, 1, 1, 1, 1], [1, -1, 1, -1, 1, -1, 1], [1, -1, 0, 1, -1, 1, 0, -1, 1], [1, 0, 0, 0, 0, 0, 0, 0, 1], [1, 1, 1, 1, 1, 1, 1, 1, 1, 1, 1, 1, 1, 1, 1, 1, 1], [1, 0, 0, -1, 0, 0, 1], [1, 1, 1, 1, 1, 1, 1, 1, 1, 1, 1, 1, 1, 1, 1, 1, 1, 1, 1], [1, 0, -1, 0, 1, 0, -1, 0, 1], [1, -1, 0, 1, -1, 0, 1, 0, -1, 1, 0, -1, 1], [1, -1, 1, -1, 1, -1, 1, -1, 1, -1, 1], [1, 1, 1, 1, 1, 1, 1, 1, 1, 1, 1, 1, 1, 1, 1, 1, 1, 1, 1, 1, 1, 1, 1], [1, 0, 0, 0, -1, 0, 0, 0, 1], [1, 0, 0, 0, 0, 1, 0, 0, 0, 0, 1, 0, 0, 0, 0, 1, 0, 0, 0, 0, 1], [1, -1, 1, -1, 1, -1, 1, -1, 1, -1, 1, -1, 1], [1, 0, 0, 0, 0, 0, 0, 0, 0, 1, 0, 0, 0, 0, 0, 0, 0, 0, 1], [1, 0, -1, 0, 1, 0, -1, 0, 1, 0, -1, 0, 1], [1, 1, 1, 1, 1, 1, 1, 1, 1, 1, 1, 1, 1, 1, 1, 1, 1, 1, 1, 1, 1, 1, 1, 1, 1, 1, 1, 1, 1], [1, 1, 0, -1, -1, -1, 0, 1, 1], [1, 1, 1, 1, 1, 1, 1, 1, 1, 1, 1, 1, 1, 1, 1, 1, 1, 1, 1, 1, 1, 1, 1, 1, 1, 1, 1, 1, 1, 1, 1], [1, 0, 0, 0, 0, 0, 0, 0, 0, 0, 0, 0, 0, 0, 0, 0, 1], [1, -1, 0, 1, -1, 0, 1, -1, 0, 1, -1, 1, 0, -1, 1, 0, -1, 1, 0, -1, 1], [1, -1, 1, -1, 1, -1, 1, -1, 1, -1, 1, -1, 1, -1, 1, -1, 1], [1, -1, 0, 0, 0, 1, -1, 1, -1, 0, 1, -1, 1, -1, 1, 0, -1, 1, -1, 1, 0, 0, 0, -1, 1], [1, 0, 0, 0, 0, 0, -1, 0, 0, 0, 0, 0, 1], [1, 1, 1, 1, 1, 1, 1, 1, 1, 1, 1, 1, 1, 1, 1, 1, 1, 1, 1, 1, 1, 1, 1, 1, 1, 1, 1, 1, 1, 1, 1, 1, 1, 1, 1, 1, 1], [1, -1, 1, -1, 1, -1, 1, -1, 1, -1, 1, -1, 1, -1, 1, -1, 1, -1, 1], [1, -1, 0, 1, -1, 0, 1, -1, 0, 1, -1, 0, 1, 0, -1, 1, 0, -1, 1, 0, -1, 1, 0, -1, 1], [1, 0, 0, 0, -1, 0, 0, 0, 1, 0, 0, 0, -1, 0, 0, 0, 1], [1, 1, 1, 1, 1, 1, 1, 1, 1, 1, 1, 1, 1, 1, 1, 1, 1, 1, 1, 1, 1, 1, 1, 1, 1, 1, 1, 1, 1, 1, 1, 1, 1, 1, 1, 1, 1, 1, 1, 1, 1], [1, 1, 0, -1, -1, 0, 1, 0, -1, -1, 0, 1, 1], [1, 1, 1, 1, 1, 1, 1, 1, 1, 1, 1, 1, 1, 1, 1, 1, 1, 1, 1, 1, 1, 1, 1, 1, 1, 1, 1, 1, 1, 1, 1, 1, 1, 1, 1, 1, 1, 1, 1, 1, 1, 1, 1], [1, 0, -1, 0, 1, 0, -1, 0, 1, 0, -1, 0, 1, 0, -1, 0, 1, 0, -1, 0, 1], [1, 0, 0, -1, 0, 0, 0, 0, 0, 1, 0, 0, -1, 0, 0, 1, 0, 0, 0, 0, 0, -1, 0, 0, 1], [1, -1, 1, -1, 1, -1, 1, -1, 1, -1, 1, -1, 1, -1, 1, -1, 1, -1, 1, -1, 1, -1, 1], [1, 1, 1, 1, 1, 1, 1, 1, 1, 1, 1, 1, 1, 1, 1, 1, 1, 1, 1, 1, 1, 1, 1, 1, 1, 1, 1, 1, 1, 1, 1, 1, 1, 1, 1, 1, 1, 1, 1, 1, 1, 1, 1, 1, 1, 1, 1], [1, 0, 0, 0, 0, 0, 0, 0, -1, 0, 0, 0, 0, 0, 0, 0, 1], [1, 0, 0, 0, 0, 0, 0, 1, 0, 0, 0, 0, 0, 0, 1, 0, 0, 0, 0, 0, 0, 1, 0, 0, 0, 0, 0, 0, 1, 0, 0, 0, 0, 0, 0, 1, 0, 0, 0, 0, 0, 0, 1], [1, 0, 0, 0, 0, -1, 0, 0, 0, 0, 1, 0, 0, 0, 0, -1, 0, 0, 0, 0, 1], [1, -1, 0, 1, -1, 0, 1, -1, 0, 1, -1, 0, 1, -1, 0, 1, -1, 1, 0, -1, 1, 0, -1, 1, 0, -1, 1, 0, -1, 1, 0, -1, 1], [1, 0, -1, 0, 1, 0, -1, 0, 1, 0, -1, 0, 1, 0, -1, 0, 1, 0, -1, 0, 1, 0, -1, 0, 1], [1, 1, 1, 1, 1, 1, 1, 1, 1, 1, 1, 1, 1, 1, 1, 1, 1, 1, 1, 1, 1, 1, 1, 1, 1, 1, 1, 1, 1, 1, 1, 1, 1, 1, 1, 1, 1, 1, 1, 1, 1, 1, 1, 1, 1, 1, 1, 1, 1, 1, 1, 1, 1], [1, 0, 0, 0, 0, 0, 0, 0, 0, -1, 0, 0, 0, 0, 0, 0, 0, 0, 1], [1, -1, 0, 0, 0, 1, -1, 0, 0, 0, 1, 0, -1, 0, 0, 1, 0, -1, 0, 0, 1, 0, 0, -1, 0, 1, 0, 0, -1, 0, 1, 0, 0, 0, -1, 1, 0, 0, 0, -1, 1], [1, 0, 0, 0, -1, 0, 0, 0, 1, 0, 0, 0, -1, 0, 0, 0, 1, 0, 0, 0, -1, 0, 0, 0, 1], [1, -1, 0, 1, -1, 0, 1, -1, 0, 1, -1, 0, 1, -1, 0, 1, -1, 0, 1, 0, -1, 1, 0, -1, 1, 0, -1, 1, 0, -1, 1, 0, -1, 1, 0, -1, 1], [1, -1, 1, -1, 1, -1, 1, -1, 1, -1, 1, -1, 1, -1, 1, -1, 1, -1, 1, -1, 1, -1, 1, -1, 1, -1, 1, -1, 1], [1, 1, 1, 1, 1, 1, 1, 1, 1, 1, 1, 1, 1, 1, 1, 1, 1, 1, 1, 1, 1, 1, 1, 1, 1, 1, 1, 1, 1, 1, 1, 1, 1, 1, 1, 1, 1, 1, 1, 1, 1, 1, 1, 1, 1, 1, 1, 1, 1, 1, 1, 1, 1, 1, 1, 1, 1, 1, 1], [1, 0, 1, 0, 0, 0, -1, 0, -1, 0, -1, 0, 0, 0, 1, 0, 1]]
def ringT (n : Int) : List Int := ringL.getD (n.toNat - 1) []
def T_ring_by : FnSem := fun ws => match ws with
  | [.d (.int n)] => if 1 ≤ n ∧ n ≤ 60 then .ok (.d (rowD (ringT n))) [.d .non] else F_ring_by ws
  | _ => F_ring_by ws
theorem T_ring : F_ring_by = T_ring_by := by
  funext ws
  unfold T_ring_by
  split
  · rename_i n
    split
    · rename_i h
      have c : n = 1 ∨ n = 2 ∨ n = 3 ∨ n = 4 ∨ n = 5 ∨ n = 6 ∨ n = 7 ∨ n = 8 ∨ n = 9 ∨ n = 10 ∨ n = 11 ∨ n = 12 ∨ n = 13 ∨ n = 14 ∨ n = 15 ∨ n = 16 ∨ n = 17 ∨ n = 18 ∨ n = 19 ∨ n = 20 ∨ n = 21 ∨ n = 22 ∨ n = 23 ∨ n = 24 ∨ n = 25 ∨ n = 26 ∨ n = 27 ∨ n = 28 ∨ n = 29 ∨ n = 30 ∨ n = 31 ∨ n = 32 ∨ n = 33 ∨ n = 34 ∨ n = 35 ∨ n = 36 ∨ n = 37 ∨ n = 38 ∨ n = 39 ∨ n = 40 ∨ n = 41 ∨ n = 42 ∨ n = 43 ∨ n = 44 ∨ n = 45 ∨ n = 46 ∨ n = 47 ∨ n = 48 ∨ n = 49 ∨ n = 50 ∨ n = 51 ∨ n = 52 ∨ n = 53 ∨ n = 54 ∨ n = 55 ∨ n = 56 ∨ n = 57 ∨ n = 58 ∨ n = 59 ∨ n = 60 := by omega
      rcases c with rfl | rfl | rfl | rfl | rfl | rfl | rfl | rfl | rfl | rfl | rfl | rfl | rfl | rfl | rfl | rfl | rfl | rfl | rfl | rfl | rfl | rfl | rfl | rfl | rfl | rfl | rfl | rfl | rfl | rfl | rfl | rfl | rfl | rfl | rfl | rfl | rfl | rfl | rfl | rfl | rfl | rfl | rfl | rfl | rfl | rfl | rfl | rfl | rfl | rfl | rfl | rfl | rfl | rfl | rfl | rfl | rfl | rfl | rfl | rfl
      · exact ring_1
      · exact ring_2
      · exact ring_3
      · exact ring_4
      · exact ring_5
      · exact ring_6
      · exact ring_7
      · exact ring_8
      · exact ring_9
      · exact ring_10
      · exact ring_11
      · exact ring_12
      · exact ring_13
      · exact ring_14
      · exact ring_15
      · exact ring_16
      · exact ring_17
      · exact ring_18
      · exact ring_19
      · exact ring_20
      · exact ring_21
      · exact ring_22
      · exact ring_23
      · exact ring_24
      · exact ring_25
      · exact ring_26
      · exact ring_27
      · exact ring_28
      · exact ring_29
      · exact ring_30
      · exact ring_31
      · exact ring_32
      · exact ring_33
      · exact ring_34
      · exact ring_35
      · exact ring_36
      · exact ring_37
      · exact ring_38
      · exact ring_39
      · exact ring_40
      · exact ring_41
      · exact ring_42
      · exact ring_43
      · exact ring_44
      · exact ring_45
      · exact ring_46
      · exact ring_47
      · exact ring_48
      · exact ring_49
      · exact ring_50
      · exact ring_51
      · exact ring_52
      · exact ring_53
      · exact ring_54
      · exact ring_55
      · exact ring_56
      · exact ring_57
      · exact ring_58
      · exact ring_59
      · exact ring_60
    · rfl
  · rfl
def m_rings_T : M Fl := (seqM (setM [] 1 (callM F_row_passed (consA (datA (slotM 0)) nilA))) (seqM (ifS (boolM (cmpM .Eq (slotA 1) (datA (tupM nilL)))) (seqM badM nextM) nextM) (seqM (setM [] 2 (lstM nilL)) (seqM (forS (iterL range2D (consL (constM (.int (1))) (consL (binM .Add (datA (constM (.int (60)))) (datA (constM (.int (1))))) nilL))) (nameG [] 3) (seqM (setM [] 4 (callM T_ring_by (consA (datA (slotM 3)) nilA))) (seqM (ifS (andB (boolM (cmpM .LtE (datA (bcM lenW (consA (slotA 4) nilA))) (datA (bcM lenW (consA (slotA 1) nilA))))) (testM (datA (callM F_divides (consA (datA (slotM 4)) (consA (datA (slotM 1)) nilA)))))) (seqM (dropM (appM 2 (tupM (consL (slotM 3) (consL (callM F_times_by (consA (datA (slotM 1)) (consA (datA (slotM 4)) nilA))) nilL))))) nextM) nextM) nextM))) (seqM (retM (bcM tupleW (consA (slotA 2) nilA))) nextM)))))
def T_rings_in : FnSem := fnM 5 [false] m_rings_T
theorem T_rings : F_rings_in = T_rings_in := by
  unfold F_rings_in T_rings_in m_rings_in m_rings_T
  rw [T_ring]
theorem rrow_1 : F_ring_row [.d (.int 1)] = .ok (.d (rowD [-1, 1])) [.d .non] := by
  unfold F_ring_row m_ring_row
  rw [T_ring]
  kernel_rfl
theorem rrow_2 : F_ring_row [.d (.int 2)] = .ok (.d (rowD [1, 1])) [.d .non] := by
  unfold F_ring_row m_ring_row
  rw [T_ring]
  kernel_rfl
theorem rrow_3 : F_ring_row [.d (.int 3)] = .ok (.d (rowD [1, 1, 1])) [.d .non] := by
  unfold F_ring_row m_ring_row
  rw [T_ring]
  kernel_rfl
theorem rrow_4 : F_ring_row [.d (.int 4)] = .ok (.d (rowD [1, 0, 1])) [.d .non] := by
  unfold F_ring_row m_ring_row
  rw [T_ring]
  kernel_rfl
theorem rrow_5 : F_ring_row [.d (.int 5)] = .ok (.d (rowD [1, 1, 1, 1, 1])) [.d .non] := by
  unfold F_ring_row m_ring_row
  rw [T_ring]
  kernel_rfl
theorem rrow_6 : F_ring_row [.d (.int 6)] = .ok (.d (rowD [1, -1, 1])) [.d .non] := by
  unfold F_ring_row m_ring_row
  rw [T_ring]
  kernel_rfl
theorem rrow_7 : F_ring_row [.d (.int 7)] = .ok (.d (rowD [1, 1, 1, 1, 1, 1, 1])) [.d .non] := by
  unfold F_ring_row m_ring_row
  rw [T_ring]
  kernel_rfl
theorem rrow_8 : F_ring_row [.d (.int 8)] = .ok (.d (rowD [1, 0, 0, 0, 1])) [.d .non] := by
  unfold F_ring_row m_ring_row
  rw [T_ring]
  kernel_rfl
theorem rrow_9 : F_ring_row [.d (.int 9)] = .ok (.d (rowD [1, 0, 0, 1, 0, 0, 1])) [.d .non] := by
  unfold F_ring_row m_ring_row
  rw [T_ring]
  kernel_rfl
theorem rrow_10 : F_ring_row [.d (.int 10)] = .ok (.d (rowD [1, -1, 1, -1, 1])) [.d .non] := by
  unfold F_ring_row m_ring_row
  rw [T_ring]
  kernel_rfl
theorem rrow_11 : F_ring_row [.d (.int 11)] = .ok (.d (rowD [1, 1, 1, 1, 1, 1, 1, 1, 1, 1, 1])) [.d .non] := by
  unfold F_ring_row m_ring_row
  rw [T_ring]
  kernel_rfl
theorem rrow_12 : F_ring_row [.d (.int 12)] = .ok (.d (rowD [1, 0, -1, 0, 1])) [.d .non] := by
  unfold F_ring_row m_ring_row
  rw [T_ring]
  kernel_rfl
theorem rrow_13 : F_ring_row [.d (.int 13)] = .ok (.d (rowD [1, 1, 1, 1, 1, 1, 1, 1, 1, 1, 1, 1, 1])) [.d .non] := by
  unfold F_ring_row m_ring_row
  rw [T_ring]
  kernel_rfl
theorem rrow_14 : F_ring_row [.d (.int 14)] = .ok (.d (rowD [1, -1, 1, -1, 1, -1, 1])) [.d .non] := by
  unfold F_ring_row m_ring_row
  rw [T_ring]
  kernel_rfl
theorem rrow_15 : F_ring_row [.d (.int 15)] = .ok (.d (rowD [1, -1, 0, 1, -1, 1, 0, -1, 1])) [.d .non] := by
  unfold F_ring_row m_ring_row
  rw [T_ring]
  kernel_rfl
theorem rrow_16 : F_ring_row [.d (.int 16)] = .ok (.d (rowD [1, 0, 0, 0, 0, 0, 0, 0, 1])) [.d .non] := by
  unfold F_ring_row m_ring_row
  rw [T_ring]
  kernel_rfl
theorem rrow_17 : F_ring_row [.d (.int 17)] = .ok (.d (rowD [1, 1, 1, 1, 1, 1, 1, 1, 1, 1, 1, 1, 1, 1, 1, 1, 1])) [.d .non] := by
  unfold F_ring_row m_ring_row
  rw [T_ring]
  kernel_rfl
theorem rrow_18 : F_ring_row [.d (.int 18)] = .ok (.d (rowD [1, 0, 0, -1, 0, 0, 1])) [.d .non] := by
  unfold F_ring_row m_ring_row
  rw [T_ring]
  kernel_rfl
theorem rrow_19 : F_ring_row [.d (.int 19)] = .ok (.d (rowD [1, 1, 1, 1, 1, 1, 1, 1, 1, 1, 1, 1, 1, 1, 1, 1, 1, 1, 1])) [.d .non] := by
  unfold F_ring_row m_ring_row
  rw [T_ring]
  kernel_rfl
theorem rrow_20 : F_ring_row [.d (.int 20)] = .ok (.d (rowD [1, 0, -1, 0, 1, 0, -1, 0, 1])) [.d .non] := by
  unfold F_ring_row m_ring_row
  rw [T_ring]
  kernel_rfl
theorem rrow_21 : F_ring_row [.d (.int 21)] = .ok (.d (rowD [1, -1, 0, 1, -1, 0, 1, 0, -1, 1, 0, -1, 1])) [.d .non] := by
  unfold F_ring_row m_ring_row
  rw [T_ring]
  kernel_rfl
theorem rrow_22 : F_ring_row [.d (.int 22)] = .ok (.d (rowD [1, -1, 1, -1, 1, -1, 1, -1, 1, -1, 1])) [.d .non] := by
  unfold F_ring_row m_ring_row
  rw [T_ring]
  kernel_rfl
theorem rrow_23 : F_ring_row [.d (.int 23)] = .ok (.d (rowD [1, 1, 1, 1, 1, 1, 1, 1, 1, 1, 1, 1, 1, 1, 1, 1, 1, 1, 1, 1, 1, 1, 1])) [.d .non] := by
  unfold F_ring_row m_ring_row
  rw [T_ring]
  kernel_rfl
theorem rrow_24 : F_ring_row [.d (.int 24)] = .ok (.d (rowD [1, 0, 0, 0, -1, 0, 0, 0, 1])) [.d .non] := by
  unfold F_ring_row m_ring_row
  rw [T_ring]
  kernel_rfl
theorem rrow_25 : F_ring_row [.d (.int 25)] = .ok (.d (rowD [1, 0, 0, 0, 0, 1, 0, 0, 0, 0, 1, 0, 0, 0, 0, 1, 0, 0, 0, 0, 1])) [.d .non] := by
  unfold F_ring_row m_ring_row
  rw [T_ring]
  kernel_rfl
theorem rrow_26 : F_ring_row [.d (.int 26)] = .ok (.d (rowD [1, -1, 1, -1, 1, -1, 1, -1, 1, -1, 1, -1, 1])) [.d .non] := by
  unfold F_ring_row m_ring_row
  rw [T_ring]
  kernel_rfl
theorem rrow_27 : F_ring_row [.d (.int 27)] = .ok (.d (rowD [1, 0, 0, 0, 0, 0, 0, 0, 0, 1, 0, 0, 0, 0, 0, 0, 0, 0, 1])) [.d .non] := by
  unfold F_ring_row m_ring_row
  rw [T_ring]
  kernel_rfl
theorem rrow_28 : F_ring_row [.d (.int 28)] = .ok (.d (rowD [1, 0, -1, 0, 1, 0, -1, 0, 1, 0, -1, 0, 1])) [.d .non] := by
  unfold F_ring_row m_ring_row
  rw [T_ring]
  kernel_rfl
theorem rrow_29 : F_ring_row [.d (.int 29)] = .ok (.d (rowD [1, 1, 1, 1, 1, 1, 1, 1, 1, 1, 1, 1, 1, 1, 1, 1, 1, 1, 1, 1, 1, 1, 1, 1, 1, 1, 1, 1, 1])) [.d .non] := by
  unfold F_ring_row m_ring_row
  rw [T_ring]
  kernel_rfl
theorem rrow_30 : F_ring_row [.d (.int 30)] = .ok (.d (rowD [1, 1, 0, -1, -1, -1, 0, 1, 1])) [.d .non] := by
  unfold F_ring_row m_ring_row
  rw [T_ring]
  kernel_rfl
theorem rrow_31 : F_ring_row [.d (.int 31)] = .ok (.d (rowD [1, 1, 1, 1, 1, 1, 1, 1, 1, 1, 1, 1, 1, 1, 1, 1, 1, 1, 1, 1, 1, 1, 1, 1, 1, 1, 1, 1, 1, 1, 1])) [.d .non] := by
  unfold F_ring_row m_ring_row
  rw [T_ring]
  kernel_rfl
theorem rrow_32 : F_ring_row [.d (.int 32)] = .ok (.d (rowD [1, 0, 0, 0, 0, 0, 0, 0, 0, 0, 0, 0, 0, 0, 0, 0, 1])) [.d .non] := by
  unfold F_ring_row m_ring_row
  rw [T_ring]
  kernel_rfl
theorem rrow_33 : F_ring_row [.d (.int 33)] = .ok (.d (rowD [1, -1, 0, 1, -1, 0, 1, -1, 0, 1, -1, 1, 0, -1, 1, 0, -1, 1, 0, -1, 1])) [.d .non] := by
  unfold F_ring_row m_ring_row
  rw [T_ring]
  kernel_rfl
theorem rrow_34 : F_ring_row [.d (.int 34)] = .ok (.d (rowD [1, -1, 1, -1, 1, -1, 1, -1, 1, -1, 1, -1, 1, -1, 1, -1, 1])) [.d .non] := by
  unfold F_ring_row m_ring_row
  rw [T_ring]
  kernel_rfl
theorem rrow_35 : F_ring_row [.d (.int 35)] = .ok (.d (rowD [1, -1, 0, 0, 0, 1, -1, 1, -1, 0, 1, -1, 1, -1, 1, 0, -1, 1, -1, 1, 0, 0, 0, -1, 1])) [.d .non] := by
  unfold F_ring_row m_ring_row
  rw [T_ring]
  kernel_rfl
theorem rrow_36 : F_ring_row [.d (.int 36)] = .ok (.d (rowD [1, 0, 0, 0, 0, 0, -1, 0, 0, 0, 0, 0, 1])) [.d .non] := by
  unfold F_ring_row m_ring_row
  rw [T_ring]
  kernel_rfl
theorem rrow_37 : F_ring_row [.d (.int 37)] = .ok (.d (rowD [1, 1, 1, 1, 1, 1, 1, 1, 1, 1, 1, 1, 1, 1, 1, 1, 1, 1, 1, 1, 1, 1, 1, 1, 1, 1, 1, 1, 1, 1, 1, 1, 1, 1, 1, 1, 1])) [.d .non] := by
  unfold F_ring_row m_ring_row
  rw [T_ring]
  kernel_rfl
theorem rrow_38 : F_ring_row [.d (.int 38)] = .ok (.d (rowD [1, -1, 1, -1, 1, -1, 1, -1, 1, -1, 1, -1, 1, -1, 1, -1, 1, -1, 1])) [.d .non] := by
  unfold F_ring_row m_ring_row
  rw [T_ring]
  kernel_rfl
theorem rrow_39 : F_ring_row [.d (.int 39)] = .ok (.d (rowD [1, -1, 0, 1, -1, 0, 1, -1, 0, 1, -1, 0, 1, 0, -1, 1, 0, -1, 1, 0, -1, 1, 0, -1, 1])) [.d .non] := by
  unfold F_ring_row m_ring_row
  rw [T_ring]
  kernel_rfl
theorem rrow_40 : F_ring_row [.d (.int 40)] = .ok (.d (rowD [1, 0, 0, 0, -1, 0, 0, 0, 1, 0, 0, 0, -1, 0, 0, 0, 1])) [.d .non] := by
  unfold F_ring_row m_ring_row
  rw [T_ring]
  kernel_rfl
theorem rrow_41 : F_ring_row [.d (.int 41)] = .ok (.d (rowD [1, 1, 1, 1, 1, 1, 1, 1, 1, 1, 1, 1, 1, 1, 1, 1, 1, 1, 1, 1, 1, 1, 1, 1, 1, 1, 1, 1, 1, 1, 1, 1, 1, 1, 1, 1, 1, 1, 1, 1, 1])) [.d .non] := by
  unfold F_ring_row m_ring_row
  rw [T_ring]
  kernel_rfl
theorem rrow_42 : F_ring_row [.d (.int 42)] = .ok (.d (rowD [1, 1, 0, -1, -1, 0, 1, 0, -1, -1, 0, 1, 1])) [.d .non] := by
  unfold F_ring_row m_ring_row
  rw [T_ring]
  kernel_rfl
theorem rrow_43 : F_ring_row [.d (.int 43)] = .ok (.d (rowD [1, 1, 1, 1, 1, 1, 1, 1, 1, 1, 1, 1, 1, 1, 1, 1, 1, 1, 1, 1, 1, 1, 1, 1, 1, 1, 1, 1, 1, 1, 1, 1, 1, 1, 1, 1, 1, 1, 1, 1, 1, 1, 1])) [.d .non] := by
  unfold F_ring_row m_ring_row
  rw [T_ring]
  kernel_rfl
theorem rrow_44 : F_ring_row [.d (.int 44)] = .ok (.d (rowD [1, 0, -1, 0, 1, 0, -1, 0, 1, 0, -1, 0, 1, 0, -1, 0, 1, 0, -1, 0, 1])) [.d .non] := by
  unfold F_ring_row m_ring_row
  rw [T_ring]
  kernel_rfl
theorem rrow_45 : F_ring_row [.d (.int 45)] = .ok (.d (rowD [1, 0, 0, -1, 0, 0, 0, 0, 0, 1, 0, 0, -1, 0, 0, 1, 0, 0, 0, 0, 0, -1, 0, 0, 1])) [.d .non] := by
  unfold F_ring_row m_ring_row
  rw [T_ring]
  kernel_rfl
theorem rrow_46 : F_ring_row [.d (.int 46)] = .ok (.d (rowD [1, -1, 1, -1, 1, -1, 1, -1, 1, -1, 1, -1, 1, -1, 1, -1, 1, -1, 1, -1, 1, -1, 1])) [.d .non] := by
  unfold F_ring_row m_ring_row
  rw [T_ring]
  kernel_rfl
theorem rrow_47 : F_ring_row [.d (.int 47)] = .ok (.d (rowD [1, 1, 1, 1, 1, 1, 1, 1, 1, 1, 1, 1, 1, 1, 1, 1, 1, 1, 1, 1, 1, 1, 1, 1, 1, 1, 1, 1, 1, 1, 1, 1, 1, 1, 1, 1, 1, 1, 1, 1, 1, 1, 1, 1, 1, 1, 1])) [.d .non] := by
  unfold F_ring_row m_ring_row
  rw [T_ring]
  kernel_rfl
theorem rrow_48 : F_ring_row [.d (.int 48)] = .ok (.d (rowD [1, 0, 0, 0, 0, 0, 0, 0, -1, 0, 0, 0, 0, 0, 0, 0, 1])) [.d .non] := by
  unfold F_ring_row m_ring_row
  rw [T_ring]
  kernel_rfl
theorem rrow_49 : F_ring_row [.d (.int 49)] = .ok (.d (rowD [1, 0, 0, 0, 0, 0, 0, 1, 0, 0, 0, 0, 0, 0, 1, 0, 0, 0, 0, 0, 0, 1, 0, 0, 0, 0, 0, 0, 1, 0, 0, 0, 0, 0, 0, 1, 0, 0, 0, 0, 0, 0, 1])) [.d .non] := by
  unfold F_ring_row m_ring_row
  rw [T_ring]
  kernel_rfl
theorem rrow_50 : F_ring_row [.d (.int 50)] = .ok (.d (rowD [1, 0, 0, 0, 0, -1, 0, 0, 0, 0, 1, 0, 0, 0, 0, -1, 0, 0, 0, 0, 1])) [.d .non] := by
  unfold F_ring_row m_ring_row
  rw [T_ring]
  kernel_rfl
theorem rrow_51 : F_ring_row [.d (.int 51)] = .ok (.d (rowD [1, -1, 0, 1, -1, 0, 1, -1, 0, 1, -1, 0, 1, -1, 0, 1, -1, 1, 0, -1, 1, 0, -1, 1, 0, -1, 1, 0, -1, 1, 0, -1, 1])) [.d .non] := by
  unfold F_ring_row m_ring_row
  rw [T_ring]
  kernel_rfl
theorem rrow_52 : F_ring_row [.d (.int 52)] = .ok (.d (rowD [1, 0, -1, 0, 1, 0, -1, 0, 1, 0, -1, 0, 1, 0, -1, 0, 1, 0, -1, 0, 1, 0, -1, 0, 1])) [.d .non] := by
  unfold F_ring_row m_ring_row
  rw [T_ring]
  kernel_rfl
theorem rrow_53 : F_ring_row [.d (.int 53)] = .ok (.d (rowD [1, 1, 1, 1, 1, 1, 1, 1, 1, 1, 1, 1, 1, 1, 1, 1, 1, 1, 1, 1, 1, 1, 1, 1, 1, 1, 1, 1, 1, 1, 1, 1, 1, 1, 1, 1, 1, 1, 1, 1, 1, 1, 1, 1, 1, 1, 1, 1, 1, 1, 1, 1, 1])) [.d .non] := by
  unfold F_ring_row m_ring_row
  rw [T_ring]
  kernel_rfl
theorem rrow_54 : F_ring_row [.d (.int 54)] = .ok (.d (rowD [1, 0, 0, 0, 0, 0, 0, 0, 0, -1, 0, 0, 0, 0, 0, 0, 0, 0, 1])) [.d .non] := by
  unfold F_ring_row m_ring_row
  rw [T_ring]
  kernel_rfl
theorem rrow_55 : F_ring_row [.d (.int 55)] = .ok (.d (rowD [1, -1, 0, 0, 0, 1, -1, 0, 0, 0, 1, 0, -1, 0, 0, 1, 0, -1, 0, 0, 1, 0, 0, -1, 0, 1, 0, 0, -1, 0, 1, 0, 0, 0, -1, 1, 0, 0, 0, -1, 1])) [.d .non] := by
  unfold F_ring_row m_ring_row
  rw [T_ring]
  kernel_rfl
theorem rrow_56 : F_ring_row [.d (.int 56)] = .ok (.d (rowD [1, 0, 0, 0, -1, 0, 0, 0, 1, 0, 0, 0, -1, 0, 0, 0, 1, 0, 0, 0, -1, 0, 0, 0, 1])) [.d .non] := by
  unfold F_ring_row m_ring_row
  rw [T_ring]
  kernel_rfl
theorem rrow_57 : F_ring_row [.d (.int 57)] = .ok (.d (rowD [1, -1, 0, 1, -1, 0, 1, -1, 0, 1, -1, 0, 1, -1, 0, 1, -1, 0, 1, 0, -1, 1, 0, -1, 1, 0, -1, 1, 0, -1, 1, 0, -1, 1, 0, -1, 1])) [.d .non] := by
  unfold F_ring_row m_ring_row
  rw [T_ring]
  kernel_rfl
theorem rrow_58 : F_ring_row [.d (.int 58)] = .ok (.d (rowD [1, -1, 1, -1, 1, -1, 1, -1, 1, -1, 1, -1, 1, -1, 1, -1, 1, -1, 1, -1, 1, -1, 1, -1, 1, -1, 1, -1, 1])) [.d .non] := by
  unfold F_ring_row m_ring_row
  rw [T_ring]
  kernel_rfl
theorem rrow_59 : F_ring_row [.d (.int 59)] = .ok (.d (rowD [1, 1, 1, 1, 1, 1, 1, 1, 1, 1, 1, 1, 1, 1, 1, 1, 1, 1, 1, 1, 1, 1, 1, 1, 1, 1, 1, 1, 1, 1, 1, 1, 1, 1, 1, 1, 1, 1, 1, 1, 1, 1, 1, 1, 1, 1, 1, 1, 1, 1, 1, 1, 1, 1, 1, 1, 1, 1, 1])) [.d .non] := by
  unfold F_ring_row m_ring_row
  rw [T_ring]
  kernel_rfl
theorem rrow_60 : F_ring_row [.d (.int 60)] = .ok (.d (rowD [1, 0, 1, 0, 0, 0, -1, 0, -1, 0, -1, 0, 0, 0, 1, 0, 1])) [.d .non] := by
  unfold F_ring_row m_ring_row
  rw [T_ring]
  kernel_rfl
end K21
end FL
set_option Elab.async false
set_option linter.all false
set_option maxRecDepth 100000
set_option maxHeartbeats 0
namespace FL
namespace K21
open PySem PySem.Spec L2
open PyProof.Rows hiding St
def plD (n : Nat) : FL.D := rowD (-1 :: (List.replicate (n - 1) 0 ++ [1]))
def b0 : M Fl := (asgM (tupG 2 (consG (nameG [] 3) (consG (nameG [] 4) nilG))) (tupM (consL (binM .Add (datA (constM (.int (1)))) (datA (callM F_law_draw (consA (slotA 1) (consA (datA (constM (.int (30)))) nilA))))) (consL (binM .Add (datA (constM (.int (1)))) (datA (callM F_law_draw (consA (slotA 1) (consA (datA (constM (.int (16)))) nilA))))) nilL))))
def b1 : M Fl := (parM [] 5 6 (callM F_ring_row (consA (datA (slotM 3)) nilA)) (callM F_ring_row (consA (datA (binM .Mult (datA (constM (.int (2)))) (slotA 3))) nilA)))
def b2 : M Fl := (setM [] 7 (cmpM .Eq (datA (binM .Sub (slotA 3) (datA (binM .Mult (datA (binM .FloorDiv (slotA 3) (datA (constM (.int (2)))))) (datA (constM (.int (2)))))))) (datA (constM (.int (1))))))
def b3 : M Fl := (ifS (boolM (cmpM .NotEq (datA (callM F_stretched (consA (datA (slotM 5)) (consA (datA (constM (.int (2)))) nilA)))) (datA (ifM (testM (slotA 7)) (callM F_row_product (consA (datA (slotM 5)) (consA (datA (slotM 6)) nilA))) (slotM 6))))) (seqM (retM (constM (.bl false))) nextM) nextM)
def b4 : M Fl := (ifS (orB (andB (testM (slotA 7)) (andB (boolM (cmpM .Gt (slotA 3) (datA (constM (.int (1)))))) (boolM (cmpM .NotEq (slotA 6) (datA (callM F_signed (consA (datA (slotM 5)) nilA))))))) (andB (boolM (cmpM .Eq (slotA 3) (datA (constM (.int (1)))))) (boolM (cmpM .NotEq (slotA 6) (datA (tupM (consL (tupM (consL (constM (.int (1))) (consL (constM (.int (1))) nilL))) (consL (tupM (consL (constM (.int (1))) (consL (constM (.int (1))) nilL))) nilL)))))))) (seqM (retM (constM (.bl false))) nextM) nextM)
def b5 : M Fl := (ifS (andB (testM (slotA 7)) (boolM (cmpM .NotEq (datA (callM F_even_half (consA (datA (callM F_row_product (consA (datA (slotM 5)) (consA (datA (callM F_signed (consA (datA (slotM 5)) nilA))) nilA)))) nilA))) (datA (ifM (boolM (cmpM .Gt (slotA 3) (datA (constM (.int (1)))))) (slotM 5) (tupM (consL (tupM (consL (constM (.int (1))) (consL (constM (.int (1))) nilL))) (consL (tupM (consL (negM (datA (constM (.int (1))))) (consL (constM (.int (1))) nilL))) nilL)))))))) (seqM (retM (constM (.bl false))) nextM) nextM)
def b6 : M Fl := (parM [] 8 9 (callM F_law_power_less (consA (datA (slotM 3)) nilA)) (callM F_law_power_less (consA (datA (slotM 4)) nilA)))
def b7 : M Fl := (ifS (orB (boolM (cmpM .NotEq (datA (callM F_common (consA (datA (slotM 8)) (consA (datA (slotM 9)) nilA)))) (datA (callM F_law_power_less (consA (datA (callM F_law_gcd (consA (datA (slotM 3)) (consA (datA (slotM 4)) nilA)))) nilA))))) (boolM (cmpM .NotEq (datA (ixM (datA (callM F_shared_out (consA (datA (callM F_law_power_less (consA (datA (binM .Mult (datA (constM (.int (2)))) (slotA 4))) nilA))) (consA (datA (slotM 9)) nilA)))) (datA (constM (.int (0)))))) (datA (binM .Add (datA (binM .Add (datA (tupM (consL (tupM (consL (constM (.int (1))) (consL (constM (.int (1))) nilL))) nilL))) (datA (binM .Mult (datA (tupM (consL (tupM (consL (constM (.int (0))) (consL (constM (.int (1))) nilL))) nilL))) (datA (binM .Sub (slotA 4) (datA (constM (.int (1)))))))))) (datA (tupM (consL (tupM (consL (constM (.int (1))) (consL (constM (.int (1))) nilL))) nilL)))))))) (seqM (retM (constM (.bl false))) nextM) nextM)
def b8 : M Fl := (setM [] 10 (lcM (iterL range2D (consL (constM (.int (1))) (consL (binM .Add (slotA 4) (datA (constM (.int (1))))) nilL))) (nameG [0, 1, 2, 3, 4, 5, 6, 7, 8, 9, 10] 11) (boolM (cmpM .Eq (datA (binM .Mod (datA (bcM intW (consA (slotA 4) nilA))) (slotA 11))) (datA (constM (.int (0)))))) (slotM 11) [11]))
def b9 : M Fl := (ifS (orB (boolM (cmpM .NotEq (datA (callM F_rings_in (consA (datA (slotM 9)) nilA))) (datA (bcM tupleW (consA (datA (lcM (iterM (slotM 10)) (nameG [0, 1, 2, 3, 4, 5, 6, 7, 8, 9, 10] 11) yesM (tupM (consL (slotM 11) (consL (constM (.int (1))) nilL))) [11])) nilA))))) (boolM (cmpM .NotEq (datA (callM F_times_in (consA (datA (callM F_row_product (consA (datA (slotM 9)) (consA (datA (slotM 9)) nilA)))) (consA (datA (callM F_ring_row (consA (datA (slotM 4)) nilA))) nilA)))) (datA (constM (.int (2))))))) (seqM (retM (constM (.bl false))) nextM) nextM)
def b10 : M Fl := (ifS (orB (boolM (cmpM .NotEq (datA (callM F_woven (consA (datA (callM F_even_half (consA (datA (slotM 5)) nilA))) (consA (datA (callM F_odd_half (consA (datA (slotM 5)) nilA))) nilA)))) (slotA 5))) (boolM (cmpM .NotEq (datA (callM F_row_sum (consA (datA (callM F_row_behind (consA (datA (callM F_odd_half (consA (datA (slotM 5)) nilA))) (consA (datA (constM (.int (1)))) nilA)))) (consA (datA (tupM nilL)) nilA)))) (datA (callM F_row_behind (consA (datA (callM F_odd_half (consA (datA (slotM 5)) nilA))) (consA (datA (constM (.int (1)))) nilA))))))) (seqM (retM (constM (.bl false))) nextM) nextM)
def b11 : M Fl := (ifS (andB (boolM (cmpM .Gt (slotA 3) (datA (constM (.int (1)))))) (boolM (cmpM .NotEq (datA (callM F_back_row (consA (datA (callM F_stretched (consA (datA (slotM 5)) (consA (datA (constM (.int (3)))) nilA)))) nilA))) (datA (callM F_stretched (consA (datA (slotM 5)) (consA (datA (constM (.int (3)))) nilA))))))) (seqM (retM (constM (.bl false))) nextM) nextM)
def lawBody : M Fl := (seqM b0 (seqM b1 (seqM b2 (seqM b3 (seqM b4 (seqM b5 (seqM b6 (seqM b7 (seqM b8 (seqM b9 (seqM b10 (seqM b11 nextM))))))))))))
abbrev st (a0 a1 a2 : Option W) (n m : Int) (a5 a6 a7 a8 a9 a10 a11 : Option W) : Rho := [a0, a1, a2, some (.d (.int n)), some (.d (.int m)), a5, a6, a7, a8, a9, a10, a11]
def seqs : List (M Fl) → M Fl → M Fl
  | [], r => r
  | s :: l, r => seqM s (seqs l r)
theorem seqs_go {r : M Fl} {ρ' : Rho} : ∀ {l : List (M Fl)} {ρ : Rho}, seqs l nextM ρ = .ok .nx ρ' → seqs l r ρ = r ρ'
  | [], ρ, h => by
    have e : Res.ok Fl.nx ρ = Res.ok Fl.nx ρ' := h
    cases e
    rfl
  | s :: l, ρ, h => by
    have h' : (s ρ).flow (seqs l nextM) = .ok .nx ρ' := h
    show (s ρ).flow (seqs l r) = r ρ'
    cases e : s ρ with
    | bad => rw [e] at h'; cases h'
    | exc c fs ρ1 => rw [e] at h'; cases h'
    | ok f ρ1 =>
      rw [e] at h'
      cases f with
      | nx => exact seqs_go (l := l) (ρ := ρ1) h'
      | brk => cases h'
      | cont => cases h'
      | ret w => cases h'
def b9T : M Fl := (ifS (orB (boolM (cmpM .NotEq (datA (callM T_rings_in (consA (datA (slotM 9)) nilA))) (datA (bcM tupleW (consA (datA (lcM (iterM (slotM 10)) (nameG [0, 1, 2, 3, 4, 5, 6, 7, 8, 9, 10] 11) yesM (tupM (consL (slotM 11) (consL (constM (.int (1))) nilL))) [11])) nilA))))) (boolM (cmpM .NotEq (datA (callM F_times_in (consA (datA (callM F_row_product (consA (datA (slotM 9)) (consA (datA (slotM 9)) nilA)))) (consA (datA (callM F_ring_row (consA (datA (slotM 4)) nilA))) nilA)))) (datA (constM (.int (2))))))) (seqM (retM (constM (.bl false))) nextM) nextM)
theorem b9_T : b9 = b9T := by
  unfold b9 b9T
  rw [T_rings]
end K21
end FL
set_option Elab.async false
set_option linter.all false
set_option maxRecDepth 100000
set_option maxHeartbeats 0
namespace FL
namespace K21
open PySem PySem.Spec L2
open PyProof.Rows hiding St
section
variable (a0 a1 a2 a5 a6 a7 a8 a9 a10 a11 : Option W) (n m : Int)
theorem numA_1 : seqs [b2, b3, b4, b5] nextM (st a0 a1 a2 1 m (some (.d (rowD [-1, 1]))) (some (.d (rowD [1, 1]))) a7 a8 a9 a10 a11) = .ok .nx (st a0 a1 a2 1 m (some (.d (rowD [-1, 1]))) (some (.d (rowD [1, 1]))) (some (.d (.bl true))) a8 a9 a10 a11) := by kernel_rfl
theorem numC_1 : seqs [b10, b11] nextM (st a0 a1 a2 1 m (some (.d (rowD [-1, 1]))) a6 a7 a8 a9 a10 a11) = .ok .nx (st a0 a1 a2 1 m (some (.d (rowD [-1, 1]))) a6 a7 a8 a9 a10 a11) := by kernel_rfl
theorem numA_2 : seqs [b2, b3, b4, b5] nextM (st a0 a1 a2 2 m (some (.d (rowD [1, 1]))) (some (.d (rowD [1, 0, 1]))) a7 a8 a9 a10 a11) = .ok .nx (st a0 a1 a2 2 m (some (.d (rowD [1, 1]))) (some (.d (rowD [1, 0, 1]))) (some (.d (.bl false))) a8 a9 a10 a11) := by kernel_rfl
theorem numC_2 : seqs [b10, b11] nextM (st a0 a1 a2 2 m (some (.d (rowD [1, 1]))) a6 a7 a8 a9 a10 a11) = .ok .nx (st a0 a1 a2 2 m (some (.d (rowD [1, 1]))) a6 a7 a8 a9 a10 a11) := by kernel_rfl
theorem numA_3 : seqs [b2, b3, b4, b5] nextM (st a0 a1 a2 3 m (some (.d (rowD [1, 1, 1]))) (some (.d (rowD [1, -1, 1]))) a7 a8 a9 a10 a11) = .ok .nx (st a0 a1 a2 3 m (some (.d (rowD [1, 1, 1]))) (some (.d (rowD [1, -1, 1]))) (some (.d (.bl true))) a8 a9 a10 a11) := by kernel_rfl
theorem numC_3 : seqs [b10, b11] nextM (st a0 a1 a2 3 m (some (.d (rowD [1, 1, 1]))) a6 a7 a8 a9 a10 a11) = .ok .nx (st a0 a1 a2 3 m (some (.d (rowD [1, 1, 1]))) a6 a7 a8 a9 a10 a11) := by kernel_rfl
theorem numA_4 : seqs [b2, b3, b4, b5] nextM (st a0 a1 a2 4 m (some (.d (rowD [1, 0, 1]))) (some (.d (rowD [1, 0, 0, 0, 1]))) a7 a8 a9 a10 a11) = .ok .nx (st a0 a1 a2 4 m (some (.d (rowD [1, 0, 1]))) (some (.d (rowD [1, 0, 0, 0, 1]))) (some (.d (.bl false))) a8 a9 a10 a11) := by kernel_rfl
theorem numC_4 : seqs [b10, b11] nextM (st a0 a1 a2 4 m (some (.d (rowD [1, 0, 1]))) a6 a7 a8 a9 a10 a11) = .ok .nx (st a0 a1 a2 4 m (some (.d (rowD [1, 0, 1]))) a6 a7 a8 a9 a10 a11) := by kernel_rfl
theorem numA_5 : seqs [b2, b3, b4, b5] nextM (st a0 a1 a2 5 m (some (.d (rowD [1, 1, 1, 1, 1]))) (some (.d (rowD [1, -1, 1, -1, 1]))) a7 a8 a9 a10 a11) = .ok .nx (st a0 a1 a2 5 m (some (.d (rowD [1, 1, 1, 1, 1]))) (some (.d (rowD [1, -1, 1, -1, 1]))) (some (.d (.bl true))) a8 a9 a10 a11) := by kernel_rfl
theorem numC_5 : seqs [b10, b11] nextM (st a0 a1 a2 5 m (some (.d (rowD [1, 1, 1, 1, 1]))) a6 a7 a8 a9 a10 a11) = .ok .nx (st a0 a1 a2 5 m (some (.d (rowD [1, 1, 1, 1, 1]))) a6 a7 a8 a9 a10 a11) := by kernel_rfl
theorem numA_6 : seqs [b2, b3, b4, b5] nextM (st a0 a1 a2 6 m (some (.d (rowD [1, -1, 1]))) (some (.d (rowD [1, 0, -1, 0, 1]))) a7 a8 a9 a10 a11) = .ok .nx (st a0 a1 a2 6 m (some (.d (rowD [1, -1, 1]))) (some (.d (rowD [1, 0, -1, 0, 1]))) (some (.d (.bl false))) a8 a9 a10 a11) := by kernel_rfl
theorem numC_6 : seqs [b10, b11] nextM (st a0 a1 a2 6 m (some (.d (rowD [1, -1, 1]))) a6 a7 a8 a9 a10 a11) = .ok .nx (st a0 a1 a2 6 m (some (.d (rowD [1, -1, 1]))) a6 a7 a8 a9 a10 a11) := by kernel_rfl
theorem numA_7 : seqs [b2, b3, b4, b5] nextM (st a0 a1 a2 7 m (some (.d (rowD [1, 1, 1, 1, 1, 1, 1]))) (some (.d (rowD [1, -1, 1, -1, 1, -1, 1]))) a7 a8 a9 a10 a11) = .ok .nx (st a0 a1 a2 7 m (some (.d (rowD [1, 1, 1, 1, 1, 1, 1]))) (some (.d (rowD [1, -1, 1, -1, 1, -1, 1]))) (some (.d (.bl true))) a8 a9 a10 a11) := by kernel_rfl
theorem numC_7 : seqs [b10, b11] nextM (st a0 a1 a2 7 m (some (.d (rowD [1, 1, 1, 1, 1, 1, 1]))) a6 a7 a8 a9 a10 a11) = .ok .nx (st a0 a1 a2 7 m (some (.d (rowD [1, 1, 1, 1, 1, 1, 1]))) a6 a7 a8 a9 a10 a11) := by kernel_rfl
theorem numA_8 : seqs [b2, b3, b4, b5] nextM (st a0 a1 a2 8 m (some (.d (rowD [1, 0, 0, 0, 1]))) (some (.d (rowD [1, 0, 0, 0, 0, 0, 0, 0, 1]))) a7 a8 a9 a10 a11) = .ok .nx (st a0 a1 a2 8 m (some (.d (rowD [1, 0, 0, 0, 1]))) (some (.d (rowD [1, 0, 0, 0, 0, 0, 0, 0, 1]))) (some (.d (.bl false))) a8 a9 a10 a11) := by kernel_rfl
theorem numC_8 : seqs [b10, b11] nextM (st a0 a1 a2 8 m (some (.d (rowD [1, 0, 0, 0, 1]))) a6 a7 a8 a9 a10 a11) = .ok .nx (st a0 a1 a2 8 m (some (.d (rowD [1, 0, 0, 0, 1]))) a6 a7 a8 a9 a10 a11) := by kernel_rfl
theorem numA_9 : seqs [b2, b3, b4, b5] nextM (st a0 a1 a2 9 m (some (.d (rowD [1, 0, 0, 1, 0, 0, 1]))) (some (.d (rowD [1, 0, 0, -1, 0, 0, 1]))) a7 a8 a9 a10 a11) = .ok .nx (st a0 a1 a2 9 m (some (.d (rowD [1, 0, 0, 1, 0, 0, 1]))) (some (.d (rowD [1, 0, 0, -1, 0, 0, 1]))) (some (.d (.bl true))) a8 a9 a10 a11) := by kernel_rfl
theorem numC_9 : seqs [b10, b11] nextM (st a0 a1 a2 9 m (some (.d (rowD [1, 0, 0, 1, 0, 0, 1]))) a6 a7 a8 a9 a10 a11) = .ok .nx (st a0 a1 a2 9 m (some (.d (rowD [1, 0, 0, 1, 0, 0, 1]))) a6 a7 a8 a9 a10 a11) := by kernel_rfl
theorem numA_10 : seqs [b2, b3, b4, b5] nextM (st a0 a1 a2 10 m (some (.d (rowD [1, -1, 1, -1, 1]))) (some (.d (rowD [1, 0, -1, 0, 1, 0, -1, 0, 1]))) a7 a8 a9 a10 a11) = .ok .nx (st a0 a1 a2 10 m (some (.d (rowD [1, -1, 1, -1, 1]))) (some (.d (rowD [1, 0, -1, 0, 1, 0, -1, 0, 1]))) (some (.d (.bl false))) a8 a9 a10 a11) := by kernel_rfl
theorem numC_10 : seqs [b10, b11] nextM (st a0 a1 a2 10 m (some (.d (rowD [1, -1, 1, -1, 1]))) a6 a7 a8 a9 a10 a11) = .ok .nx (st a0 a1 a2 10 m (some (.d (rowD [1, -1, 1, -1, 1]))) a6 a7 a8 a9 a10 a11) := by kernel_rfl
theorem numA_11 : seqs [b2, b3, b4, b5] nextM (st a0 a1 a2 11 m (some (.d (rowD [1, 1, 1, 1, 1, 1, 1, 1, 1, 1, 1]))) (some (.d (rowD [1, -1, 1, -1, 1, -1, 1, -1, 1, -1, 1]))) a7 a8 a9 a10 a11) = .ok .nx (st a0 a1 a2 11 m (some (.d (rowD [1, 1, 1, 1, 1, 1, 1, 1, 1, 1, 1]))) (some (.d (rowD [1, -1, 1, -1, 1, -1, 1, -1, 1, -1, 1]))) (some (.d (.bl true))) a8 a9 a10 a11) := by kernel_rfl
theorem numC_11 : seqs [b10, b11] nextM (st a0 a1 a2 11 m (some (.d (rowD [1, 1, 1, 1, 1, 1, 1, 1, 1, 1, 1]))) a6 a7 a8 a9 a10 a11) = .ok .nx (st a0 a1 a2 11 m (some (.d (rowD [1, 1, 1, 1, 1, 1, 1, 1, 1, 1, 1]))) a6 a7 a8 a9 a10 a11) := by kernel_rfl
theorem numA_12 : seqs [b2, b3, b4, b5] nextM (st a0 a1 a2 12 m (some (.d (rowD [1, 0, -1, 0, 1]))) (some (.d (rowD [1, 0, 0, 0, -1, 0, 0, 0, 1]))) a7 a8 a9 a10 a11) = .ok .nx (st a0 a1 a2 12 m (some (.d (rowD [1, 0, -1, 0, 1]))) (some (.d (rowD [1, 0, 0, 0, -1, 0, 0, 0, 1]))) (some (.d (.bl false))) a8 a9 a10 a11) := by kernel_rfl
theorem numC_12 : seqs [b10, b11] nextM (st a0 a1 a2 12 m (some (.d (rowD [1, 0, -1, 0, 1]))) a6 a7 a8 a9 a10 a11) = .ok .nx (st a0 a1 a2 12 m (some (.d (rowD [1, 0, -1, 0, 1]))) a6 a7 a8 a9 a10 a11) := by kernel_rfl
end
end K21
end FL
set_option Elab.async false
set_option linter.all false
set_option maxRecDepth 100000
set_option maxHeartbeats 0
namespace FL
namespace K21
open PySem PySem.Spec L2
open PyProof.Rows hiding St
section
variable (a0 a1 a2 a5 a6 a7 a8 a9 a10 a11 : Option W) (n m : Int)
theorem numA_13 : seqs [b2, b3, b4, b5] nextM (st a0 a1 a2 13 m (some (.d (rowD [1, 1, 1, 1, 1, 1, 1, 1, 1, 1, 1, 1, 1]))) (some (.d (rowD [1, -1, 1, -1, 1, -1, 1, -1, 1, -1, 1, -1, 1]))) a7 a8 a9 a10 a11) = .ok .nx (st a0 a1 a2 13 m (some (.d (rowD [1, 1, 1, 1, 1, 1, 1, 1, 1, 1, 1, 1, 1]))) (some (.d (rowD [1, -1, 1, -1, 1, -1, 1, -1, 1, -1, 1, -1, 1]))) (some (.d (.bl true))) a8 a9 a10 a11) := by kernel_rfl
theorem numC_13 : seqs [b10, b11] nextM (st a0 a1 a2 13 m (some (.d (rowD [1, 1, 1, 1, 1, 1, 1, 1, 1, 1, 1, 1, 1]))) a6 a7 a8 a9 a10 a11) = .ok .nx (st a0 a1 a2 13 m (some (.d (rowD [1, 1, 1, 1, 1, 1, 1, 1, 1, 1, 1, 1, 1]))) a6 a7 a8 a9 a10 a11) := by kernel_rfl
theorem numA_14 : seqs [b2, b3, b4, b5] nextM (st a0 a1 a2 14 m (some (.d (rowD [1, -1, 1, -1, 1, -1, 1]))) (some (.d (rowD [1, 0, -1, 0, 1, 0, -1, 0, 1, 0, -1, 0, 1]))) a7 a8 a9 a10 a11) = .ok .nx (st a0 a1 a2 14 m (some (.d (rowD [1, -1, 1, -1, 1, -1, 1]))) (some (.d (rowD [1, 0, -1, 0, 1, 0, -1, 0, 1, 0, -1, 0, 1]))) (some (.d (.bl false))) a8 a9 a10 a11) := by kernel_rfl
theorem numC_14 : seqs [b10, b11] nextM (st a0 a1 a2 14 m (some (.d (rowD [1, -1, 1, -1, 1, -1, 1]))) a6 a7 a8 a9 a10 a11) = .ok .nx (st a0 a1 a2 14 m (some (.d (rowD [1, -1, 1, -1, 1, -1, 1]))) a6 a7 a8 a9 a10 a11) := by kernel_rfl
theorem numA_15 : seqs [b2, b3, b4, b5] nextM (st a0 a1 a2 15 m (some (.d (rowD [1, -1, 0, 1, -1, 1, 0, -1, 1]))) (some (.d (rowD [1, 1, 0, -1, -1, -1, 0, 1, 1]))) a7 a8 a9 a10 a11) = .ok .nx (st a0 a1 a2 15 m (some (.d (rowD [1, -1, 0, 1, -1, 1, 0, -1, 1]))) (some (.d (rowD [1, 1, 0, -1, -1, -1, 0, 1, 1]))) (some (.d (.bl true))) a8 a9 a10 a11) := by kernel_rfl
theorem numC_15 : seqs [b10, b11] nextM (st a0 a1 a2 15 m (some (.d (rowD [1, -1, 0, 1, -1, 1, 0, -1, 1]))) a6 a7 a8 a9 a10 a11) = .ok .nx (st a0 a1 a2 15 m (some (.d (rowD [1, -1, 0, 1, -1, 1, 0, -1, 1]))) a6 a7 a8 a9 a10 a11) := by kernel_rfl
theorem numA_16 : seqs [b2, b3, b4, b5] nextM (st a0 a1 a2 16 m (some (.d (rowD [1, 0, 0, 0, 0, 0, 0, 0, 1]))) (some (.d (rowD [1, 0, 0, 0, 0, 0, 0, 0, 0, 0, 0, 0, 0, 0, 0, 0, 1]))) a7 a8 a9 a10 a11) = .ok .nx (st a0 a1 a2 16 m (some (.d (rowD [1, 0, 0, 0, 0, 0, 0, 0, 1]))) (some (.d (rowD [1, 0, 0, 0, 0, 0, 0, 0, 0, 0, 0, 0, 0, 0, 0, 0, 1]))) (some (.d (.bl false))) a8 a9 a10 a11) := by kernel_rfl
theorem numC_16 : seqs [b10, b11] nextM (st a0 a1 a2 16 m (some (.d (rowD [1, 0, 0, 0, 0, 0, 0, 0, 1]))) a6 a7 a8 a9 a10 a11) = .ok .nx (st a0 a1 a2 16 m (some (.d (rowD [1, 0, 0, 0, 0, 0, 0, 0, 1]))) a6 a7 a8 a9 a10 a11) := by kernel_rfl
theorem numA_17 : seqs [b2, b3, b4, b5] nextM (st a0 a1 a2 17 m (some (.d (rowD [1, 1, 1, 1, 1, 1, 1, 1, 1, 1, 1, 1, 1, 1, 1, 1, 1]))) (some (.d (rowD [1, -1, 1, -1, 1, -1, 1, -1, 1, -1, 1, -1, 1, -1, 1, -1, 1]))) a7 a8 a9 a10 a11) = .ok .nx (st a0 a1 a2 17 m (some (.d (rowD [1, 1, 1, 1, 1, 1, 1, 1, 1, 1, 1, 1, 1, 1, 1, 1, 1]))) (some (.d (rowD [1, -1, 1, -1, 1, -1, 1, -1, 1, -1, 1, -1, 1, -1, 1, -1, 1]))) (some (.d (.bl true))) a8 a9 a10 a11) := by kernel_rfl
theorem numC_17 : seqs [b10, b11] nextM (st a0 a1 a2 17 m (some (.d (rowD [1, 1, 1, 1, 1, 1, 1, 1, 1, 1, 1, 1, 1, 1, 1, 1, 1]))) a6 a7 a8 a9 a10 a11) = .ok .nx (st a0 a1 a2 17 m (some (.d (rowD [1, 1, 1, 1, 1, 1, 1, 1, 1, 1, 1, 1, 1, 1, 1, 1, 1]))) a6 a7 a8 a9 a10 a11) := by kernel_rfl
theorem numA_18 : seqs [b2, b3, b4, b5] nextM (st a0 a1 a2 18 m (some (.d (rowD [1, 0, 0, -1, 0, 0, 1]))) (some (.d (rowD [1, 0, 0, 0, 0, 0, -1, 0, 0, 0, 0, 0, 1]))) a7 a8 a9 a10 a11) = .ok .nx (st a0 a1 a2 18 m (some (.d (rowD [1, 0, 0, -1, 0, 0, 1]))) (some (.d (rowD [1, 0, 0, 0, 0, 0, -1, 0, 0, 0, 0, 0, 1]))) (some (.d (.bl false))) a8 a9 a10 a11) := by kernel_rfl
theorem numC_18 : seqs [b10, b11] nextM (st a0 a1 a2 18 m (some (.d (rowD [1, 0, 0, -1, 0, 0, 1]))) a6 a7 a8 a9 a10 a11) = .ok .nx (st a0 a1 a2 18 m (some (.d (rowD [1, 0, 0, -1, 0, 0, 1]))) a6 a7 a8 a9 a10 a11) := by kernel_rfl
theorem numA_19 : seqs [b2, b3, b4, b5] nextM (st a0 a1 a2 19 m (some (.d (rowD [1, 1, 1, 1, 1, 1, 1, 1, 1, 1, 1, 1, 1, 1, 1, 1, 1, 1, 1]))) (some (.d (rowD [1, -1, 1, -1, 1, -1, 1, -1, 1, -1, 1, -1, 1, -1, 1, -1, 1, -1, 1]))) a7 a8 a9 a10 a11) = .ok .nx (st a0 a1 a2 19 m (some (.d (rowD [1, 1, 1, 1, 1, 1, 1, 1, 1, 1, 1, 1, 1, 1, 1, 1, 1, 1, 1]))) (some (.d (rowD [1, -1, 1, -1, 1, -1, 1, -1, 1, -1, 1, -1, 1, -1, 1, -1, 1, -1, 1]))) (some (.d (.bl true))) a8 a9 a10 a11) := by kernel_rfl
theorem numC_19 : seqs [b10, b11] nextM (st a0 a1 a2 19 m (some (.d (rowD [1, 1, 1, 1, 1, 1, 1, 1, 1, 1, 1, 1, 1, 1, 1, 1, 1, 1, 1]))) a6 a7 a8 a9 a10 a11) = .ok .nx (st a0 a1 a2 19 m (some (.d (rowD [1, 1, 1, 1, 1, 1, 1, 1, 1, 1, 1, 1, 1, 1, 1, 1, 1, 1, 1]))) a6 a7 a8 a9 a10 a11) := by kernel_rfl
theorem numA_20 : seqs [b2, b3, b4, b5] nextM (st a0 a1 a2 20 m (some (.d (rowD [1, 0, -1, 0, 1, 0, -1, 0, 1]))) (some (.d (rowD [1, 0, 0, 0, -1, 0, 0, 0, 1, 0, 0, 0, -1, 0, 0, 0, 1]))) a7 a8 a9 a10 a11) = .ok .nx (st a0 a1 a2 20 m (some (.d (rowD [1, 0, -1, 0, 1, 0, -1, 0, 1]))) (some (.d (rowD [1, 0, 0, 0, -1, 0, 0, 0, 1, 0, 0, 0, -1, 0, 0, 0, 1]))) (some (.d (.bl false))) a8 a9 a10 a11) := by kernel_rfl
theorem numC_20 : seqs [b10, b11] nextM (st a0 a1 a2 20 m (some (.d (rowD [1, 0, -1, 0, 1, 0, -1, 0, 1]))) a6 a7 a8 a9 a10 a11) = .ok .nx (st a0 a1 a2 20 m (some (.d (rowD [1, 0, -1, 0, 1, 0, -1, 0, 1]))) a6 a7 a8 a9 a10 a11) := by kernel_rfl
end
end K21
end FL
set_option Elab.async false
set_option linter.all false
set_option maxRecDepth 100000
set_option maxHeartbeats 0
namespace FL
namespace K21
open PySem PySem.Spec L2
open PyProof.Rows hiding St
section
variable (a0 a1 a2 a5 a6 a7 a8 a9 a10 a11 : Option W) (n m : Int)
theorem numA_21 : seqs [b2, b3, b4, b5] nextM (st a0 a1 a2 21 m (some (.d (rowD [1, -1, 0, 1, -1, 0, 1, 0, -1, 1, 0, -1, 1]))) (some (.d (rowD [1, 1, 0, -1, -1, 0, 1, 0, -1, -1, 0, 1, 1]))) a7 a8 a9 a10 a11) = .ok .nx (st a0 a1 a2 21 m (some (.d (rowD [1, -1, 0, 1, -1, 0, 1, 0, -1, 1, 0, -1, 1]))) (some (.d (rowD [1, 1, 0, -1, -1, 0, 1, 0, -1, -1, 0, 1, 1]))) (some (.d (.bl true))) a8 a9 a10 a11) := by kernel_rfl
theorem numC_21 : seqs [b10, b11] nextM (st a0 a1 a2 21 m (some (.d (rowD [1, -1, 0, 1, -1, 0, 1, 0, -1, 1, 0, -1, 1]))) a6 a7 a8 a9 a10 a11) = .ok .nx (st a0 a1 a2 21 m (some (.d (rowD [1, -1, 0, 1, -1, 0, 1, 0, -1, 1, 0, -1, 1]))) a6 a7 a8 a9 a10 a11) := by kernel_rfl
theorem numA_22 : seqs [b2, b3, b4, b5] nextM (st a0 a1 a2 22 m (some (.d (rowD [1, -1, 1, -1, 1, -1, 1, -1, 1, -1, 1]))) (some (.d (rowD [1, 0, -1, 0, 1, 0, -1, 0, 1, 0, -1, 0, 1, 0, -1, 0, 1, 0, -1, 0, 1]))) a7 a8 a9 a10 a11) = .ok .nx (st a0 a1 a2 22 m (some (.d (rowD [1, -1, 1, -1, 1, -1, 1, -1, 1, -1, 1]))) (some (.d (rowD [1, 0, -1, 0, 1, 0, -1, 0, 1, 0, -1, 0, 1, 0, -1, 0, 1, 0, -1, 0, 1]))) (some (.d (.bl false))) a8 a9 a10 a11) := by kernel_rfl
theorem numC_22 : seqs [b10, b11] nextM (st a0 a1 a2 22 m (some (.d (rowD [1, -1, 1, -1, 1, -1, 1, -1, 1, -1, 1]))) a6 a7 a8 a9 a10 a11) = .ok .nx (st a0 a1 a2 22 m (some (.d (rowD [1, -1, 1, -1, 1, -1, 1, -1, 1, -1, 1]))) a6 a7 a8 a9 a10 a11) := by kernel_rfl
theorem numA_23 : seqs [b2, b3, b4, b5] nextM (st a0 a1 a2 23 m (some (.d (rowD [1, 1, 1, 1, 1, 1, 1, 1, 1, 1, 1, 1, 1, 1, 1, 1, 1, 1, 1, 1, 1, 1, 1]))) (some (.d (rowD [1, -1, 1, -1, 1, -1, 1, -1, 1, -1, 1, -1, 1, -1, 1, -1, 1, -1, 1, -1, 1, -1, 1]))) a7 a8 a9 a10 a11) = .ok .nx (st a0 a1 a2 23 m (some (.d (rowD [1, 1, 1, 1, 1, 1, 1, 1, 1, 1, 1, 1, 1, 1, 1, 1, 1, 1, 1, 1, 1, 1, 1]))) (some (.d (rowD [1, -1, 1, -1, 1, -1, 1, -1, 1, -1, 1, -1, 1, -1, 1, -1, 1, -1, 1, -1, 1, -1, 1]))) (some (.d (.bl true))) a8 a9 a10 a11) := by kernel_rfl
theorem numC_23 : seqs [b10, b11] nextM (st a0 a1 a2 23 m (some (.d (rowD [1, 1, 1, 1, 1, 1, 1, 1, 1, 1, 1, 1, 1, 1, 1, 1, 1, 1, 1, 1, 1, 1, 1]))) a6 a7 a8 a9 a10 a11) = .ok .nx (st a0 a1 a2 23 m (some (.d (rowD [1, 1, 1, 1, 1, 1, 1, 1, 1, 1, 1, 1, 1, 1, 1, 1, 1, 1, 1, 1, 1, 1, 1]))) a6 a7 a8 a9 a10 a11) := by kernel_rfl
theorem numA_24 : seqs [b2, b3, b4, b5] nextM (st a0 a1 a2 24 m (some (.d (rowD [1, 0, 0, 0, -1, 0, 0, 0, 1]))) (some (.d (rowD [1, 0, 0, 0, 0, 0, 0, 0, -1, 0, 0, 0, 0, 0, 0, 0, 1]))) a7 a8 a9 a10 a11) = .ok .nx (st a0 a1 a2 24 m (some (.d (rowD [1, 0, 0, 0, -1, 0, 0, 0, 1]))) (some (.d (rowD [1, 0, 0, 0, 0, 0, 0, 0, -1, 0, 0, 0, 0, 0, 0, 0, 1]))) (some (.d (.bl false))) a8 a9 a10 a11) := by kernel_rfl
theorem numC_24 : seqs [b10, b11] nextM (st a0 a1 a2 24 m (some (.d (rowD [1, 0, 0, 0, -1, 0, 0, 0, 1]))) a6 a7 a8 a9 a10 a11) = .ok .nx (st a0 a1 a2 24 m (some (.d (rowD [1, 0, 0, 0, -1, 0, 0, 0, 1]))) a6 a7 a8 a9 a10 a11) := by kernel_rfl
theorem numA_25 : seqs [b2, b3, b4, b5] nextM (st a0 a1 a2 25 m (some (.d (rowD [1, 0, 0, 0, 0, 1, 0, 0, 0, 0, 1, 0, 0, 0, 0, 1, 0, 0, 0, 0, 1]))) (some (.d (rowD [1, 0, 0, 0, 0, -1, 0, 0, 0, 0, 1, 0, 0, 0, 0, -1, 0, 0, 0, 0, 1]))) a7 a8 a9 a10 a11) = .ok .nx (st a0 a1 a2 25 m (some (.d (rowD [1, 0, 0, 0, 0, 1, 0, 0, 0, 0, 1, 0, 0, 0, 0, 1, 0, 0, 0, 0, 1]))) (some (.d (rowD [1, 0, 0, 0, 0, -1, 0, 0, 0, 0, 1, 0, 0, 0, 0, -1, 0, 0, 0, 0, 1]))) (some (.d (.bl true))) a8 a9 a10 a11) := by kernel_rfl
theorem numC_25 : seqs [b10, b11] nextM (st a0 a1 a2 25 m (some (.d (rowD [1, 0, 0, 0, 0, 1, 0, 0, 0, 0, 1, 0, 0, 0, 0, 1, 0, 0, 0, 0, 1]))) a6 a7 a8 a9 a10 a11) = .ok .nx (st a0 a1 a2 25 m (some (.d (rowD [1, 0, 0, 0, 0, 1, 0, 0, 0, 0, 1, 0, 0, 0, 0, 1, 0, 0, 0, 0, 1]))) a6 a7 a8 a9 a10 a11) := by kernel_rfl
theorem numA_26 : seqs [b2, b3, b4, b5] nextM (st a0 a1 a2 26 m (some (.d (rowD [1, -1, 1, -1, 1, -1, 1, -1, 1, -1, 1, -1, 1]))) (some (.d (rowD [1, 0, -1, 0, 1, 0, -1, 0, 1, 0, -1, 0, 1, 0, -1, 0, 1, 0, -1, 0, 1, 0, -1, 0, 1]))) a7 a8 a9 a10 a11) = .ok .nx (st a0 a1 a2 26 m (some (.d (rowD [1, -1, 1, -1, 1, -1, 1, -1, 1, -1, 1, -1, 1]))) (some (.d (rowD [1, 0, -1, 0, 1, 0, -1, 0, 1, 0, -1, 0, 1, 0, -1, 0, 1, 0, -1, 0, 1, 0, -1, 0, 1]))) (some (.d (.bl false))) a8 a9 a10 a11) := by kernel_rfl
theorem numC_26 : seqs [b10, b11] nextM (st a0 a1 a2 26 m (some (.d (rowD [1, -1, 1, -1, 1, -1, 1, -1, 1, -1, 1, -1, 1]))) a6 a7 a8 a9 a10 a11) = .ok .nx (st a0 a1 a2 26 m (some (.d (rowD [1, -1, 1, -1, 1, -1, 1, -1, 1, -1, 1, -1, 1]))) a6 a7 a8 a9 a10 a11) := by kernel_rfl
end
end K21
end FL
set_option Elab.async false
set_option linter.all false
set_option maxRecDepth 100000
set_option maxHeartbeats 0
namespace FL
namespace K21
open PySem PySem.Spec L2
open PyProof.Rows hiding St
section
variable (a0 a1 a2 a5 a6 a7 a8 a9 a10 a11 : Option W) (n m : Int)
theorem numA_27 : seqs [b2, b3, b4, b5] nextM (st a0 a1 a2 27 m (some (.d (rowD [1, 0, 0, 0, 0, 0, 0, 0, 0, 1, 0, 0, 0, 0, 0, 0, 0, 0, 1]))) (some (.d (rowD [1, 0, 0, 0, 0, 0, 0, 0, 0, -1, 0, 0, 0, 0, 0, 0, 0, 0, 1]))) a7 a8 a9 a10 a11) = .ok .nx (st a0 a1 a2 27 m (some (.d (rowD [1, 0, 0, 0, 0, 0, 0, 0, 0, 1, 0, 0, 0, 0, 0, 0, 0, 0, 1]))) (some (.d (rowD [1, 0, 0, 0, 0, 0, 0, 0, 0, -1, 0, 0, 0, 0, 0, 0, 0, 0, 1]))) (some (.d (.bl true))) a8 a9 a10 a11) := by kernel_rfl
theorem numC_27 : seqs [b10, b11] nextM (st a0 a1 a2 27 m (some (.d (rowD [1, 0, 0, 0, 0, 0, 0, 0, 0, 1, 0, 0, 0, 0, 0, 0, 0, 0, 1]))) a6 a7 a8 a9 a10 a11) = .ok .nx (st a0 a1 a2 27 m (some (.d (rowD [1, 0, 0, 0, 0, 0, 0, 0, 0, 1, 0, 0, 0, 0, 0, 0, 0, 0, 1]))) a6 a7 a8 a9 a10 a11) := by kernel_rfl
theorem numA_28 : seqs [b2, b3, b4, b5] nextM (st a0 a1 a2 28 m (some (.d (rowD [1, 0, -1, 0, 1, 0, -1, 0, 1, 0, -1, 0, 1]))) (some (.d (rowD [1, 0, 0, 0, -1, 0, 0, 0, 1, 0, 0, 0, -1, 0, 0, 0, 1, 0, 0, 0, -1, 0, 0, 0, 1]))) a7 a8 a9 a10 a11) = .ok .nx (st a0 a1 a2 28 m (some (.d (rowD [1, 0, -1, 0, 1, 0, -1, 0, 1, 0, -1, 0, 1]))) (some (.d (rowD [1, 0, 0, 0, -1, 0, 0, 0, 1, 0, 0, 0, -1, 0, 0, 0, 1, 0, 0, 0, -1, 0, 0, 0, 1]))) (some (.d (.bl false))) a8 a9 a10 a11) := by kernel_rfl
theorem numC_28 : seqs [b10, b11] nextM (st a0 a1 a2 28 m (some (.d (rowD [1, 0, -1, 0, 1, 0, -1, 0, 1, 0, -1, 0, 1]))) a6 a7 a8 a9 a10 a11) = .ok .nx (st a0 a1 a2 28 m (some (.d (rowD [1, 0, -1, 0, 1, 0, -1, 0, 1, 0, -1, 0, 1]))) a6 a7 a8 a9 a10 a11) := by kernel_rfl
theorem numA_29 : seqs [b2, b3, b4, b5] nextM (st a0 a1 a2 29 m (some (.d (rowD [1, 1, 1, 1, 1, 1, 1, 1, 1, 1, 1, 1, 1, 1, 1, 1, 1, 1, 1, 1, 1, 1, 1, 1, 1, 1, 1, 1, 1]))) (some (.d (rowD [1, -1, 1, -1, 1, -1, 1, -1, 1, -1, 1, -1, 1, -1, 1, -1, 1, -1, 1, -1, 1, -1, 1, -1, 1, -1, 1, -1, 1]))) a7 a8 a9 a10 a11) = .ok .nx (st a0 a1 a2 29 m (some (.d (rowD [1, 1, 1, 1, 1, 1, 1, 1, 1, 1, 1, 1, 1, 1, 1, 1, 1, 1, 1, 1, 1, 1, 1, 1, 1, 1, 1, 1, 1]))) (some (.d (rowD [1, -1, 1, -1, 1, -1, 1, -1, 1, -1, 1, -1, 1, -1, 1, -1, 1, -1, 1, -1, 1, -1, 1, -1, 1, -1, 1, -1, 1]))) (some (.d (.bl true))) a8 a9 a10 a11) := by kernel_rfl
theorem numC_29 : seqs [b10, b11] nextM (st a0 a1 a2 29 m (some (.d (rowD [1, 1, 1, 1, 1, 1, 1, 1, 1, 1, 1, 1, 1, 1, 1, 1, 1, 1, 1, 1, 1, 1, 1, 1, 1, 1, 1, 1, 1]))) a6 a7 a8 a9 a10 a11) = .ok .nx (st a0 a1 a2 29 m (some (.d (rowD [1, 1, 1, 1, 1, 1, 1, 1, 1, 1, 1, 1, 1, 1, 1, 1, 1, 1, 1, 1, 1, 1, 1, 1, 1, 1, 1, 1, 1]))) a6 a7 a8 a9 a10 a11) := by kernel_rfl
theorem numA_30 : seqs [b2, b3, b4, b5] nextM (st a0 a1 a2 30 m (some (.d (rowD [1, 1, 0, -1, -1, -1, 0, 1, 1]))) (some (.d (rowD [1, 0, 1, 0, 0, 0, -1, 0, -1, 0, -1, 0, 0, 0, 1, 0, 1]))) a7 a8 a9 a10 a11) = .ok .nx (st a0 a1 a2 30 m (some (.d (rowD [1, 1, 0, -1, -1, -1, 0, 1, 1]))) (some (.d (rowD [1, 0, 1, 0, 0, 0, -1, 0, -1, 0, -1, 0, 0, 0, 1, 0, 1]))) (some (.d (.bl false))) a8 a9 a10 a11) := by kernel_rfl
theorem numC_30 : seqs [b10, b11] nextM (st a0 a1 a2 30 m (some (.d (rowD [1, 1, 0, -1, -1, -1, 0, 1, 1]))) a6 a7 a8 a9 a10 a11) = .ok .nx (st a0 a1 a2 30 m (some (.d (rowD [1, 1, 0, -1, -1, -1, 0, 1, 1]))) a6 a7 a8 a9 a10 a11) := by kernel_rfl
end
end K21
end FL
set_option Elab.async false
set_option linter.all false
set_option maxRecDepth 100000
set_option maxHeartbeats 0
namespace FL
namespace K21
open PySem PySem.Spec L2
open PyProof.Rows hiding St
section
variable (a0 a1 a2 a5 a6 a7 a8 a10 a11 : Option W) (n : Int)
theorem othB_1 : seqs [b8, b9T] nextM (st a0 a1 a2 n 1 a5 a6 a7 a8 (some (.d (plD 1))) a10 a11) = .ok .nx (st a0 a1 a2 n 1 a5 a6 a7 a8 (some (.d (plD 1))) (some (.d (.lst [.int 1]))) a11) := by kernel_rfl
theorem othB_2 : seqs [b8, b9T] nextM (st a0 a1 a2 n 2 a5 a6 a7 a8 (some (.d (plD 2))) a10 a11) = .ok .nx (st a0 a1 a2 n 2 a5 a6 a7 a8 (some (.d (plD 2))) (some (.d (.lst [.int 1, .int 2]))) a11) := by kernel_rfl
theorem othB_3 : seqs [b8, b9T] nextM (st a0 a1 a2 n 3 a5 a6 a7 a8 (some (.d (plD 3))) a10 a11) = .ok .nx (st a0 a1 a2 n 3 a5 a6 a7 a8 (some (.d (plD 3))) (some (.d (.lst [.int 1, .int 3]))) a11) := by kernel_rfl
theorem othB_4 : seqs [b8, b9T] nextM (st a0 a1 a2 n 4 a5 a6 a7 a8 (some (.d (plD 4))) a10 a11) = .ok .nx (st a0 a1 a2 n 4 a5 a6 a7 a8 (some (.d (plD 4))) (some (.d (.lst [.int 1, .int 2, .int 4]))) a11) := by kernel_rfl
theorem othB_5 : seqs [b8, b9T] nextM (st a0 a1 a2 n 5 a5 a6 a7 a8 (some (.d (plD 5))) a10 a11) = .ok .nx (st a0 a1 a2 n 5 a5 a6 a7 a8 (some (.d (plD 5))) (some (.d (.lst [.int 1, .int 5]))) a11) := by kernel_rfl
theorem othB_6 : seqs [b8, b9T] nextM (st a0 a1 a2 n 6 a5 a6 a7 a8 (some (.d (plD 6))) a10 a11) = .ok .nx (st a0 a1 a2 n 6 a5 a6 a7 a8 (some (.d (plD 6))) (some (.d (.lst [.int 1, .int 2, .int 3, .int 6]))) a11) := by kernel_rfl
theorem othB_7 : seqs [b8, b9T] nextM (st a0 a1 a2 n 7 a5 a6 a7 a8 (some (.d (plD 7))) a10 a11) = .ok .nx (st a0 a1 a2 n 7 a5 a6 a7 a8 (some (.d (plD 7))) (some (.d (.lst [.int 1, .int 7]))) a11) := by kernel_rfl
theorem othB_8 : seqs [b8, b9T] nextM (st a0 a1 a2 n 8 a5 a6 a7 a8 (some (.d (plD 8))) a10 a11) = .ok .nx (st a0 a1 a2 n 8 a5 a6 a7 a8 (some (.d (plD 8))) (some (.d (.lst [.int 1, .int 2, .int 4, .int 8]))) a11) := by kernel_rfl
theorem othB_9 : seqs [b8, b9T] nextM (st a0 a1 a2 n 9 a5 a6 a7 a8 (some (.d (plD 9))) a10 a11) = .ok .nx (st a0 a1 a2 n 9 a5 a6 a7 a8 (some (.d (plD 9))) (some (.d (.lst [.int 1, .int 3, .int 9]))) a11) := by kernel_rfl
theorem othB_10 : seqs [b8, b9T] nextM (st a0 a1 a2 n 10 a5 a6 a7 a8 (some (.d (plD 10))) a10 a11) = .ok .nx (st a0 a1 a2 n 10 a5 a6 a7 a8 (some (.d (plD 10))) (some (.d (.lst [.int 1, .int 2, .int 5, .int 10]))) a11) := by kernel_rfl
end
end K21
end FL
set_option Elab.async false
set_option linter.all false
set_option maxRecDepth 100000
set_option maxHeartbeats 0
namespace FL
namespace K21
open PySem PySem.Spec L2
open PyProof.Rows hiding St
section
variable (a0 a1 a2 a5 a6 a7 a8 a10 a11 : Option W) (n : Int)
theorem othB_11 : seqs [b8, b9T] nextM (st a0 a1 a2 n 11 a5 a6 a7 a8 (some (.d (plD 11))) a10 a11) = .ok .nx (st a0 a1 a2 n 11 a5 a6 a7 a8 (some (.d (plD 11))) (some (.d (.lst [.int 1, .int 11]))) a11) := by kernel_rfl
theorem othB_12 : seqs [b8, b9T] nextM (st a0 a1 a2 n 12 a5 a6 a7 a8 (some (.d (plD 12))) a10 a11) = .ok .nx (st a0 a1 a2 n 12 a5 a6 a7 a8 (some (.d (plD 12))) (some (.d (.lst [.int 1, .int 2, .int 3, .int 4, .int 6, .int 12]))) a11) := by kernel_rfl
theorem othB_13 : seqs [b8, b9T] nextM (st a0 a1 a2 n 13 a5 a6 a7 a8 (some (.d (plD 13))) a10 a11) = .ok .nx (st a0 a1 a2 n 13 a5 a6 a7 a8 (some (.d (plD 13))) (some (.d (.lst [.int 1, .int 13]))) a11) := by kernel_rfl
theorem othB_14 : seqs [b8, b9T] nextM (st a0 a1 a2 n 14 a5 a6 a7 a8 (some (.d (plD 14))) a10 a11) = .ok .nx (st a0 a1 a2 n 14 a5 a6 a7 a8 (some (.d (plD 14))) (some (.d (.lst [.int 1, .int 2, .int 7, .int 14]))) a11) := by kernel_rfl
end
end K21
end FL
set_option Elab.async false
set_option linter.all false
set_option maxRecDepth 100000
set_option maxHeartbeats 0
namespace FL
namespace K21
open PySem PySem.Spec L2
open PyProof.Rows hiding St
section
variable (a0 a1 a2 a5 a6 a7 a8 a10 a11 : Option W) (n : Int)
theorem othB_15 : seqs [b8, b9T] nextM (st a0 a1 a2 n 15 a5 a6 a7 a8 (some (.d (plD 15))) a10 a11) = .ok .nx (st a0 a1 a2 n 15 a5 a6 a7 a8 (some (.d (plD 15))) (some (.d (.lst [.int 1, .int 3, .int 5, .int 15]))) a11) := by kernel_rfl
end
end K21
end FL
set_option Elab.async false
set_option linter.all false
set_option maxRecDepth 100000
set_option maxHeartbeats 0
namespace FL
namespace K21
open PySem PySem.Spec L2
open PyProof.Rows hiding St
section
variable (a0 a1 a2 a5 a6 a7 a8 a10 a11 : Option W) (n : Int)
theorem othB_16 : seqs [b8, b9T] nextM (st a0 a1 a2 n 16 a5 a6 a7 a8 (some (.d (plD 16))) a10 a11) = .ok .nx (st a0 a1 a2 n 16 a5 a6 a7 a8 (some (.d (plD 16))) (some (.d (.lst [.int 1, .int 2, .int 4, .int 8, .int 16]))) a11) := by kernel_rfl
end
end K21
end FL
set_option Elab.async false
set_option linter.all false
set_option maxRecDepth 100000
set_option maxHeartbeats 0
namespace FL
namespace K21
open PySem PySem.Spec L2
open PyProof.Rows hiding St
def coefs : List FL.D → Option (List Int)
  | [] => some []
  | .tup [.int c, .int d] :: l => if d = 1 then (match coefs l with | some cs => some (c :: cs) | none => none) else none
  | _ => none
theorem coefs_is : ∀ {l : List FL.D} {cs : List Int}, coefs l = some cs → FL.D.tup l = rowD cs
  | [], cs, h => by
    have e : some ([] : List Int) = some cs := h
    cases e
    rfl
  | x :: l, cs, h => by
    unfold coefs at h
    split at h
    · rename_i e; cases e
    · rename_i c d l' e
      cases e
      split at h
      · rename_i hd
        subst hd
        split at h
        · rename_i cs' e2
          cases h
          have i := coefs_is e2
          have i2 : l = cs'.map fun c => .tup [.int c, .int 1] := FL.D.tup.inj i
          rw [i2]
          rfl
        · cases h
      · cases h
    · cases h
def plC : Nat → List Int
  | 0 => []
  | n + 1 => -1 :: (List.replicate n 0 ++ [1])
def plZ (n : Nat) : FL.D := rowD (plC n)
theorem plZ_pl {n : Nat} (h : 1 ≤ n) : plZ n = plD n := by
  cases n with
  | zero => omega
  | succ n => rfl
def isRow (cs : List Int) : FR → Bool
  | .ok (.d (.tup l)) [.d .non, .d .non] => (match coefs l with | some c => c == cs | none => false)
  | _ => false
theorem isRow_ok {cs : List Int} {r : FR} (h : isRow cs r = true) : r = .ok (.d (rowD cs)) [.d .non, .d .non] := by
  unfold isRow at h
  split at h
  · rename_i l
    split at h
    · rename_i c e
      have e2 : c = cs := eq_of_beq h
      subst e2
      rw [coefs_is e]
    · cases h
  · cases h
def isRow1 (cs : List Int) : FR → Bool
  | .ok (.d (.tup l)) [.d .non] => (match coefs l with | some c => c == cs | none => false)
  | _ => false
theorem isRow1_ok {cs : List Int} {r : FR} (h : isRow1 cs r = true) : r = .ok (.d (rowD cs)) [.d .non] := by
  unfold isRow1 at h
  split at h
  · rename_i l
    split at h
    · rename_i c e
      have e2 : c = cs := eq_of_beq h
      subst e2
      rw [coefs_is e]
    · cases h
  · cases h
def isInt (z : Int) : FR → Bool
  | .ok (.d (.int x)) [.d .non, .d .non] => x == z
  | _ => false
theorem isInt_ok {z : Int} {r : FR} (h : isInt z r = true) : r = .ok (.d (.int z)) [.d .non, .d .non] := by
  unfold isInt at h
  split at h
  · have e := eq_of_beq h
    rw [e]
  · cases h
def to30 : List Nat := [1, 2, 3, 4, 5, 6, 7, 8, 9, 10, 11, 12, 13, 14, 15, 16, 17, 18, 19, 20, 21, 22, 23, 24, 25, 26, 27, 28, 29, 30]
def to16 : List Nat := [1, 2, 3, 4, 5, 6, 7, 8, 9, 10, 11, 12, 13, 14, 15, 16]
theorem in30 {n : Nat} (h1 : 1 ≤ n) (h2 : n ≤ 30) : n ∈ to30 := by
  have c : n = 1 ∨ n = 2 ∨ n = 3 ∨ n = 4 ∨ n = 5 ∨ n = 6 ∨ n = 7 ∨ n = 8 ∨ n = 9 ∨ n = 10 ∨ n = 11 ∨ n = 12 ∨ n = 13 ∨ n = 14 ∨ n = 15 ∨ n = 16 ∨ n = 17 ∨ n = 18 ∨ n = 19 ∨ n = 20 ∨ n = 21 ∨ n = 22 ∨ n = 23 ∨ n = 24 ∨ n = 25 ∨ n = 26 ∨ n = 27 ∨ n = 28 ∨ n = 29 ∨ n = 30 := by omega
  rcases c with rfl | rfl | rfl | rfl | rfl | rfl | rfl | rfl | rfl | rfl | rfl | rfl | rfl | rfl | rfl | rfl | rfl | rfl | rfl | rfl | rfl | rfl | rfl | rfl | rfl | rfl | rfl | rfl | rfl | rfl <;> decide
theorem in16 {n : Nat} (h1 : 1 ≤ n) (h2 : n ≤ 16) : n ∈ to16 := by
  have c : n = 1 ∨ n = 2 ∨ n = 3 ∨ n = 4 ∨ n = 5 ∨ n = 6 ∨ n = 7 ∨ n = 8 ∨ n = 9 ∨ n = 10 ∨ n = 11 ∨ n = 12 ∨ n = 13 ∨ n = 14 ∨ n = 15 ∨ n = 16 := by omega
  rcases c with rfl | rfl | rfl | rfl | rfl | rfl | rfl | rfl | rfl | rfl | rfl | rfl | rfl | rfl | rfl | rfl <;> decide
def powOk (n : Nat) : Bool := isRow1 (plC n) (F_law_power_less [.d (.int n)])
theorem pow_all : (to30.all powOk) = true := by kernel_rfl
theorem pow_ok {n : Nat} (h1 : 1 ≤ n) (h2 : n ≤ 30) : F_law_power_less [.d (.int n)] = .ok (.d (plZ n)) [.d .non] := isRow1_ok (List.all_eq_true.mp pow_all n (in30 h1 h2))
def passOk (n : Nat) : Bool := isRow1 (plC n) (F_row_passed [.d (plZ n)])
theorem pass_all : (to30.all passOk) = true := by kernel_rfl
theorem pass_ok {n : Nat} (h1 : 1 ≤ n) (h2 : n ≤ 30) : F_row_passed [.d (plZ n)] = .ok (.d (plZ n)) [.d .non] := isRow1_ok (List.all_eq_true.mp pass_all n (in30 h1 h2))
def gcdOk (n m : Nat) : Bool := isInt (Nat.gcd n m : Nat) (F_law_gcd [.d (.int n), .d (.int m)])
theorem gcd_all : (to30.all fun n => to16.all fun m => gcdOk n m) = true := by kernel_rfl
theorem gcd_ok {n m : Nat} (h1 : 1 ≤ n) (h2 : n ≤ 30) (h3 : 1 ≤ m) (h4 : m ≤ 16) : F_law_gcd [.d (.int n), .d (.int m)] = .ok (.d (.int (Nat.gcd n m : Nat))) [.d .non, .d .non] :=
  isInt_ok (List.all_eq_true.mp (List.all_eq_true.mp gcd_all n (in30 h1 h2)) m (in16 h3 h4))
end K21
end FL
set_option Elab.async false
set_option linter.all false
set_option maxRecDepth 100000
set_option maxHeartbeats 0
namespace FL
namespace K21
open PySem PySem.Spec L2
open PyProof.Rows hiding St
theorem rest_1 : (to30.all fun a => isRow (plC (a % 1)) (F_rest_of [.d (plZ a), .d (plZ 1)])) = true := by kernel_rfl
theorem rest_2 : (to30.all fun a => isRow (plC (a % 2)) (F_rest_of [.d (plZ a), .d (plZ 2)])) = true := by kernel_rfl
theorem rest_3 : (to30.all fun a => isRow (plC (a % 3)) (F_rest_of [.d (plZ a), .d (plZ 3)])) = true := by kernel_rfl
theorem rest_4 : (to30.all fun a => isRow (plC (a % 4)) (F_rest_of [.d (plZ a), .d (plZ 4)])) = true := by kernel_rfl
end K21
end FL
set_option Elab.async false
set_option linter.all false
set_option maxRecDepth 100000
set_option maxHeartbeats 0
namespace FL
namespace K21
open PySem PySem.Spec L2
open PyProof.Rows hiding St
theorem rest_5 : (to30.all fun a => isRow (plC (a % 5)) (F_rest_of [.d (plZ a), .d (plZ 5)])) = true := by kernel_rfl
theorem rest_6 : (to30.all fun a => isRow (plC (a % 6)) (F_rest_of [.d (plZ a), .d (plZ 6)])) = true := by kernel_rfl
theorem rest_7 : (to30.all fun a => isRow (plC (a % 7)) (F_rest_of [.d (plZ a), .d (plZ 7)])) = true := by kernel_rfl
theorem rest_8 : (to30.all fun a => isRow (plC (a % 8)) (F_rest_of [.d (plZ a), .d (plZ 8)])) = true := by kernel_rfl
end K21
end FL
set_option Elab.async false
set_option linter.all false
set_option maxRecDepth 100000
set_option maxHeartbeats 0
namespace FL
namespace K21
open PySem PySem.Spec L2
open PyProof.Rows hiding St
theorem rest_9 : (to30.all fun a => isRow (plC (a % 9)) (F_rest_of [.d (plZ a), .d (plZ 9)])) = true := by kernel_rfl
theorem rest_10 : (to30.all fun a => isRow (plC (a % 10)) (F_rest_of [.d (plZ a), .d (plZ 10)])) = true := by kernel_rfl
theorem rest_11 : (to30.all fun a => isRow (plC (a % 11)) (F_rest_of [.d (plZ a), .d (plZ 11)])) = true := by kernel_rfl
theorem rest_12 : (to30.all fun a => isRow (plC (a % 12)) (F_rest_of [.d (plZ a), .d (plZ 12)])) = true := by kernel_rfl
end K21
end FL
set_option Elab.async false
set_option linter.all false
set_option maxRecDepth 100000
set_option maxHeartbeats 0
namespace FL
namespace K21
open PySem PySem.Spec L2
open PyProof.Rows hiding St
theorem rest_13 : (to30.all fun a => isRow (plC (a % 13)) (F_rest_of [.d (plZ a), .d (plZ 13)])) = true := by kernel_rfl
theorem rest_14 : (to30.all fun a => isRow (plC (a % 14)) (F_rest_of [.d (plZ a), .d (plZ 14)])) = true := by kernel_rfl
theorem rest_15 : (to30.all fun a => isRow (plC (a % 15)) (F_rest_of [.d (plZ a), .d (plZ 15)])) = true := by kernel_rfl
theorem rest_16 : (to30.all fun a => isRow (plC (a % 16)) (F_rest_of [.d (plZ a), .d (plZ 16)])) = true := by kernel_rfl
end K21
end FL
set_option Elab.async false
set_option linter.all false
set_option maxRecDepth 100000
set_option maxHeartbeats 0
namespace FL
namespace K21
open PySem PySem.Spec L2
open PyProof.Rows hiding St
theorem rest_ok {a b : Nat} (h1 : 1 ≤ a) (h2 : a ≤ 30) (h3 : 1 ≤ b) (h4 : b ≤ 16) : F_rest_of [.d (plZ a), .d (plZ b)] = .ok (.d (plZ (a % b))) [.d .non, .d .non] := by
  have c : b = 1 ∨ b = 2 ∨ b = 3 ∨ b = 4 ∨ b = 5 ∨ b = 6 ∨ b = 7 ∨ b = 8 ∨ b = 9 ∨ b = 10 ∨ b = 11 ∨ b = 12 ∨ b = 13 ∨ b = 14 ∨ b = 15 ∨ b = 16 := by omega
  rcases c with rfl | rfl | rfl | rfl | rfl | rfl | rfl | rfl | rfl | rfl | rfl | rfl | rfl | rfl | rfl | rfl
  · exact isRow_ok (List.all_eq_true.mp rest_1 a (in30 h1 h2))
  · exact isRow_ok (List.all_eq_true.mp rest_2 a (in30 h1 h2))
  · exact isRow_ok (List.all_eq_true.mp rest_3 a (in30 h1 h2))
  · exact isRow_ok (List.all_eq_true.mp rest_4 a (in30 h1 h2))
  · exact isRow_ok (List.all_eq_true.mp rest_5 a (in30 h1 h2))
  · exact isRow_ok (List.all_eq_true.mp rest_6 a (in30 h1 h2))
  · exact isRow_ok (List.all_eq_true.mp rest_7 a (in30 h1 h2))
  · exact isRow_ok (List.all_eq_true.mp rest_8 a (in30 h1 h2))
  · exact isRow_ok (List.all_eq_true.mp rest_9 a (in30 h1 h2))
  · exact isRow_ok (List.all_eq_true.mp rest_10 a (in30 h1 h2))
  · exact isRow_ok (List.all_eq_true.mp rest_11 a (in30 h1 h2))
  · exact isRow_ok (List.all_eq_true.mp rest_12 a (in30 h1 h2))
  · exact isRow_ok (List.all_eq_true.mp rest_13 a (in30 h1 h2))
  · exact isRow_ok (List.all_eq_true.mp rest_14 a (in30 h1 h2))
  · exact isRow_ok (List.all_eq_true.mp rest_15 a (in30 h1 h2))
  · exact isRow_ok (List.all_eq_true.mp rest_16 a (in30 h1 h2))
def cT : M Bool := (boolM (cmpM .Gt (datA (bcM lenW (consA (slotA 1) nilA))) (datA (constM (.int (0))))))
def cB : M Fl := (seqM (parM [] 0 1 (slotM 1) (callM F_rest_of (consA (datA (slotM 0)) (consA (datA (slotM 1)) nilA)))) nextM)
def cE : M Fl := (retM (ifM (boolM (cmpM .Gt (datA (bcM lenW (consA (slotA 0) nilA))) (datA (constM (.int (0)))))) (callM F_row_scaled (consA (datA (callM F_parted (consA (datA (constM (.tup [(.int (1)), (.int (1))]))) (consA (datA (ixM (slotA 0) (datA (negM (datA (constM (.int (1)))))))) nilA)))) (consA (datA (slotM 0)) nilA))) (tupM nilL)))
theorem c_is : m_common_of = seqM (whileM cT cB 1000000) (seqM cE nextM) := rfl
section
variable (a0 : Option W)
theorem ct_1 : cT [a0, some (.d (plZ 1))] = .ok true [a0, some (.d (plZ 1))] := by kernel_rfl
theorem ct_2 : cT [a0, some (.d (plZ 2))] = .ok true [a0, some (.d (plZ 2))] := by kernel_rfl
theorem ct_3 : cT [a0, some (.d (plZ 3))] = .ok true [a0, some (.d (plZ 3))] := by kernel_rfl
theorem ct_4 : cT [a0, some (.d (plZ 4))] = .ok true [a0, some (.d (plZ 4))] := by kernel_rfl
theorem ct_5 : cT [a0, some (.d (plZ 5))] = .ok true [a0, some (.d (plZ 5))] := by kernel_rfl
theorem ct_6 : cT [a0, some (.d (plZ 6))] = .ok true [a0, some (.d (plZ 6))] := by kernel_rfl
theorem ct_7 : cT [a0, some (.d (plZ 7))] = .ok true [a0, some (.d (plZ 7))] := by kernel_rfl
theorem ct_8 : cT [a0, some (.d (plZ 8))] = .ok true [a0, some (.d (plZ 8))] := by kernel_rfl
theorem ct_9 : cT [a0, some (.d (plZ 9))] = .ok true [a0, some (.d (plZ 9))] := by kernel_rfl
theorem ct_10 : cT [a0, some (.d (plZ 10))] = .ok true [a0, some (.d (plZ 10))] := by kernel_rfl
theorem ct_11 : cT [a0, some (.d (plZ 11))] = .ok true [a0, some (.d (plZ 11))] := by kernel_rfl
theorem ct_12 : cT [a0, some (.d (plZ 12))] = .ok true [a0, some (.d (plZ 12))] := by kernel_rfl
theorem ct_13 : cT [a0, some (.d (plZ 13))] = .ok true [a0, some (.d (plZ 13))] := by kernel_rfl
theorem ct_14 : cT [a0, some (.d (plZ 14))] = .ok true [a0, some (.d (plZ 14))] := by kernel_rfl
theorem ct_15 : cT [a0, some (.d (plZ 15))] = .ok true [a0, some (.d (plZ 15))] := by kernel_rfl
theorem ct_16 : cT [a0, some (.d (plZ 16))] = .ok true [a0, some (.d (plZ 16))] := by kernel_rfl
theorem ct_0 : cT [a0, some (.d (plZ 0))] = .ok false [a0, some (.d (plZ 0))] := by kernel_rfl
end
theorem ce_1 : cE [some (.d (plZ 1)), some (.d (plZ 0))] = .ok (.ret (.d (plZ 1))) [some (.d (plZ 1)), some (.d (plZ 0))] := by kernel_rfl
theorem ce_2 : cE [some (.d (plZ 2)), some (.d (plZ 0))] = .ok (.ret (.d (plZ 2))) [some (.d (plZ 2)), some (.d (plZ 0))] := by kernel_rfl
theorem ce_3 : cE [some (.d (plZ 3)), some (.d (plZ 0))] = .ok (.ret (.d (plZ 3))) [some (.d (plZ 3)), some (.d (plZ 0))] := by kernel_rfl
theorem ce_4 : cE [some (.d (plZ 4)), some (.d (plZ 0))] = .ok (.ret (.d (plZ 4))) [some (.d (plZ 4)), some (.d (plZ 0))] := by kernel_rfl
theorem ce_5 : cE [some (.d (plZ 5)), some (.d (plZ 0))] = .ok (.ret (.d (plZ 5))) [some (.d (plZ 5)), some (.d (plZ 0))] := by kernel_rfl
theorem ce_6 : cE [some (.d (plZ 6)), some (.d (plZ 0))] = .ok (.ret (.d (plZ 6))) [some (.d (plZ 6)), some (.d (plZ 0))] := by kernel_rfl
theorem ce_7 : cE [some (.d (plZ 7)), some (.d (plZ 0))] = .ok (.ret (.d (plZ 7))) [some (.d (plZ 7)), some (.d (plZ 0))] := by kernel_rfl
theorem ce_8 : cE [some (.d (plZ 8)), some (.d (plZ 0))] = .ok (.ret (.d (plZ 8))) [some (.d (plZ 8)), some (.d (plZ 0))] := by kernel_rfl
theorem ce_9 : cE [some (.d (plZ 9)), some (.d (plZ 0))] = .ok (.ret (.d (plZ 9))) [some (.d (plZ 9)), some (.d (plZ 0))] := by kernel_rfl
theorem ce_10 : cE [some (.d (plZ 10)), some (.d (plZ 0))] = .ok (.ret (.d (plZ 10))) [some (.d (plZ 10)), some (.d (plZ 0))] := by kernel_rfl
theorem ce_11 : cE [some (.d (plZ 11)), some (.d (plZ 0))] = .ok (.ret (.d (plZ 11))) [some (.d (plZ 11)), some (.d (plZ 0))] := by kernel_rfl
theorem ce_12 : cE [some (.d (plZ 12)), some (.d (plZ 0))] = .ok (.ret (.d (plZ 12))) [some (.d (plZ 12)), some (.d (plZ 0))] := by kernel_rfl
theorem ce_13 : cE [some (.d (plZ 13)), some (.d (plZ 0))] = .ok (.ret (.d (plZ 13))) [some (.d (plZ 13)), some (.d (plZ 0))] := by kernel_rfl
theorem ce_14 : cE [some (.d (plZ 14)), some (.d (plZ 0))] = .ok (.ret (.d (plZ 14))) [some (.d (plZ 14)), some (.d (plZ 0))] := by kernel_rfl
theorem ce_15 : cE [some (.d (plZ 15)), some (.d (plZ 0))] = .ok (.ret (.d (plZ 15))) [some (.d (plZ 15)), some (.d (plZ 0))] := by kernel_rfl
theorem ce_16 : cE [some (.d (plZ 16)), some (.d (plZ 0))] = .ok (.ret (.d (plZ 16))) [some (.d (plZ 16)), some (.d (plZ 0))] := by kernel_rfl
theorem ne_1 : cmpW .NotEq (plZ 1) (plZ 1) = some (.d (.bl false)) := by kernel_rfl
theorem ne_2 : cmpW .NotEq (plZ 2) (plZ 2) = some (.d (.bl false)) := by kernel_rfl
theorem ne_3 : cmpW .NotEq (plZ 3) (plZ 3) = some (.d (.bl false)) := by kernel_rfl
theorem ne_4 : cmpW .NotEq (plZ 4) (plZ 4) = some (.d (.bl false)) := by kernel_rfl
theorem ne_5 : cmpW .NotEq (plZ 5) (plZ 5) = some (.d (.bl false)) := by kernel_rfl
theorem ne_6 : cmpW .NotEq (plZ 6) (plZ 6) = some (.d (.bl false)) := by kernel_rfl
theorem ne_7 : cmpW .NotEq (plZ 7) (plZ 7) = some (.d (.bl false)) := by kernel_rfl
theorem ne_8 : cmpW .NotEq (plZ 8) (plZ 8) = some (.d (.bl false)) := by kernel_rfl
theorem ne_9 : cmpW .NotEq (plZ 9) (plZ 9) = some (.d (.bl false)) := by kernel_rfl
theorem ne_10 : cmpW .NotEq (plZ 10) (plZ 10) = some (.d (.bl false)) := by kernel_rfl
theorem ne_11 : cmpW .NotEq (plZ 11) (plZ 11) = some (.d (.bl false)) := by kernel_rfl
theorem ne_12 : cmpW .NotEq (plZ 12) (plZ 12) = some (.d (.bl false)) := by kernel_rfl
theorem ne_13 : cmpW .NotEq (plZ 13) (plZ 13) = some (.d (.bl false)) := by kernel_rfl
theorem ne_14 : cmpW .NotEq (plZ 14) (plZ 14) = some (.d (.bl false)) := by kernel_rfl
theorem ne_15 : cmpW .NotEq (plZ 15) (plZ 15) = some (.d (.bl false)) := by kernel_rfl
theorem ne_16 : cmpW .NotEq (plZ 16) (plZ 16) = some (.d (.bl false)) := by kernel_rfl
theorem ct_ok {b : Nat} (a0 : Option W) (h3 : 1 ≤ b) (h4 : b ≤ 16) : cT [a0, some (.d (plZ b))] = .ok true [a0, some (.d (plZ b))] := by
  have c : b = 1 ∨ b = 2 ∨ b = 3 ∨ b = 4 ∨ b = 5 ∨ b = 6 ∨ b = 7 ∨ b = 8 ∨ b = 9 ∨ b = 10 ∨ b = 11 ∨ b = 12 ∨ b = 13 ∨ b = 14 ∨ b = 15 ∨ b = 16 := by omega
  rcases c with rfl | rfl | rfl | rfl | rfl | rfl | rfl | rfl | rfl | rfl | rfl | rfl | rfl | rfl | rfl | rfl
  · exact ct_1 a0
  · exact ct_2 a0
  · exact ct_3 a0
  · exact ct_4 a0
  · exact ct_5 a0
  · exact ct_6 a0
  · exact ct_7 a0
  · exact ct_8 a0
  · exact ct_9 a0
  · exact ct_10 a0
  · exact ct_11 a0
  · exact ct_12 a0
  · exact ct_13 a0
  · exact ct_14 a0
  · exact ct_15 a0
  · exact ct_16 a0
theorem ce_ok {b : Nat} (h3 : 1 ≤ b) (h4 : b ≤ 16) : cE [some (.d (plZ b)), some (.d (plZ 0))] = .ok (.ret (.d (plZ b))) [some (.d (plZ b)), some (.d (plZ 0))] := by
  have c : b = 1 ∨ b = 2 ∨ b = 3 ∨ b = 4 ∨ b = 5 ∨ b = 6 ∨ b = 7 ∨ b = 8 ∨ b = 9 ∨ b = 10 ∨ b = 11 ∨ b = 12 ∨ b = 13 ∨ b = 14 ∨ b = 15 ∨ b = 16 := by omega
  rcases c with rfl | rfl | rfl | rfl | rfl | rfl | rfl | rfl | rfl | rfl | rfl | rfl | rfl | rfl | rfl | rfl
  · exact ce_1
  · exact ce_2
  · exact ce_3
  · exact ce_4
  · exact ce_5
  · exact ce_6
  · exact ce_7
  · exact ce_8
  · exact ce_9
  · exact ce_10
  · exact ce_11
  · exact ce_12
  · exact ce_13
  · exact ce_14
  · exact ce_15
  · exact ce_16
theorem ne_ok {b : Nat} (h3 : 1 ≤ b) (h4 : b ≤ 16) : cmpW .NotEq (plZ b) (plZ b) = some (.d (.bl false)) := by
  have c : b = 1 ∨ b = 2 ∨ b = 3 ∨ b = 4 ∨ b = 5 ∨ b = 6 ∨ b = 7 ∨ b = 8 ∨ b = 9 ∨ b = 10 ∨ b = 11 ∨ b = 12 ∨ b = 13 ∨ b = 14 ∨ b = 15 ∨ b = 16 := by omega
  rcases c with rfl | rfl | rfl | rfl | rfl | rfl | rfl | rfl | rfl | rfl | rfl | rfl | rfl | rfl | rfl | rfl
  · exact ne_1
  · exact ne_2
  · exact ne_3
  · exact ne_4
  · exact ne_5
  · exact ne_6
  · exact ne_7
  · exact ne_8
  · exact ne_9
  · exact ne_10
  · exact ne_11
  · exact ne_12
  · exact ne_13
  · exact ne_14
  · exact ne_15
  · exact ne_16
theorem cb_ok {a b : Nat} (h1 : 1 ≤ a) (h2 : a ≤ 30) (h3 : 1 ≤ b) (h4 : b ≤ 16) : cB [some (.d (plZ a)), some (.d (plZ b))] = .ok .nx [some (.d (plZ b)), some (.d (plZ (a % b)))] := by
  unfold cB
  rw [seq_nx (ρ' := [some (.d (plZ b)), some (.d (plZ (a % b)))])]
  · rfl
  · exact ev_par (ρ := [some (.d (plZ a)), some (.d (plZ b))]) rfl (ev_call2 (a := plZ a) (b := plZ b) rfl rfl (rest_ok h1 h2 h3 h4)) rfl
theorem cl : ∀ (b : Nat), b ≤ 16 → ∀ (a : Nat), 1 ≤ a → a ≤ 30 → ∀ k, b < k → whileM cT cB k [some (.d (plZ a)), some (.d (plZ b))] = .ok .nx [some (.d (plZ (Nat.gcd a b))), some (.d (plZ 0))] := by
  intro b
  induction b using Nat.strongRecOn with
  | _ b ih =>
    intro hb a h1 h2 k hk
    obtain ⟨k, rfl⟩ : ∃ k', k = k' + 1 := ⟨k - 1, by omega⟩
    by_cases z : b = 0
    · subst z
      rw [Nat.gcd_zero_right]
      exact while_no (ct_0 _)
    · have h3 : 1 ≤ b := by omega
      have hm : a % b < b := Nat.mod_lt _ (by omega)
      rw [while_yes (ct_ok _ h3 hb) (cb_ok h1 h2 h3 hb), ih (a % b) hm (by omega) b h3 (by omega) k (by omega)]
      rw [Nat.gcd_comm a b, Nat.gcd_rec b a, Nat.gcd_comm (a % b) b]
theorem gcd_pos {a b : Nat} (h3 : 1 ≤ b) (h4 : b ≤ 16) : 1 ≤ Nat.gcd a b ∧ Nat.gcd a b ≤ 16 :=
  ⟨Nat.gcd_pos_of_pos_right a (by omega), Nat.le_trans (Nat.gcd_le_right a (by omega)) h4⟩
theorem common_of_ok {a b : Nat} (h1 : 1 ≤ a) (h2 : a ≤ 30) (h3 : 1 ≤ b) (h4 : b ≤ 16) : F_common_of [.d (plZ a), .d (plZ b)] = .ok (.d (plZ (Nat.gcd a b))) [.d .non, .d .non] := by
  have g := gcd_pos (a := a) h3 h4
  refine fn_ret (ρ := [some (.d (plZ (Nat.gcd a b))), some (.d (plZ 0))]) rfl ?_ rfl
  show m_common_of [some (.d (plZ a)), some (.d (plZ b))] = _
  rw [c_is, seq_nx (ρ' := [some (.d (plZ (Nat.gcd a b))), some (.d (plZ 0))]) (cl b h4 a h1 h2 1000000 (by omega))]
  exact seq_ret (ce_ok g.1 g.2)
theorem common_ok {a b : Nat} (h1 : 1 ≤ a) (h2 : a ≤ 30) (h3 : 1 ≤ b) (h4 : b ≤ 16) : F_common [.d (plZ a), .d (plZ b)] = .ok (.d (plZ (Nat.gcd a b))) [.d .non, .d .non] := by
  refine fn_ret (ρ := [some (.d (plZ a)), some (.d (plZ b)), some (.d (plZ a)), some (.d (plZ b))]) rfl ?_ rfl
  unfold m_common
  rw [seq_nx (ρ' := [some (.d (plZ a)), some (.d (plZ b)), some (.d (plZ a)), some (.d (plZ b))])]
  · exact seq_ret (ev_ret (ev_call2 (a := plZ a) (b := plZ b) rfl rfl (common_of_ok h1 h2 h3 h4)))
  · have e1 : callM F_row_passed (consA (datA (slotM 0)) nilA) [some (.d (plZ a)), some (.d (plZ b)), none, none] = .ok (.d (plZ a)) [some (.d (plZ a)), some (.d (plZ b)), none, none] := ev_call1 (a := plZ a) rfl (pass_ok h1 h2)
    have e2 : callM F_row_passed (consA (datA (slotM 1)) nilA) [some (.d (plZ a)), some (.d (plZ b)), none, none] = .ok (.d (plZ b)) [some (.d (plZ a)), some (.d (plZ b)), none, none] := ev_call1 (a := plZ b) rfl (pass_ok h3 (by omega))
    exact ev_par (io := []) (i := 2) (j := 3) e1 e2 rfl
def q1 : M W := (cmpM .NotEq (datA (callM F_common (consA (datA (slotM 8)) (consA (datA (slotM 9)) nilA)))) (datA (callM F_law_power_less (consA (datA (callM F_law_gcd (consA (datA (slotM 3)) (consA (datA (slotM 4)) nilA)))) nilA))))
def q2 : M W := (cmpM .NotEq (datA (ixM (datA (callM F_shared_out (consA (datA (callM F_law_power_less (consA (datA (binM .Mult (datA (constM (.int (2)))) (slotA 4))) nilA))) (consA (datA (slotM 9)) nilA)))) (datA (constM (.int (0)))))) (datA (binM .Add (datA (binM .Add (datA (tupM (consL (tupM (consL (constM (.int (1))) (consL (constM (.int (1))) nilL))) nilL))) (datA (binM .Mult (datA (tupM (consL (tupM (consL (constM (.int (0))) (consL (constM (.int (1))) nilL))) nilL))) (datA (binM .Sub (slotA 4) (datA (constM (.int (1)))))))))) (datA (tupM (consL (tupM (consL (constM (.int (1))) (consL (constM (.int (1))) nilL))) nilL))))))
def qR : M Fl := (seqM (retM (constM (.bl false))) nextM)
theorem b7_is : b7 = ifS (orB (boolM q1) (boolM q2)) qR nextM := rfl
section
variable (a0 a1 a2 a5 a6 a7 a8 a10 a11 : Option W) (n : Int)
theorem q2_1 : q2 (st a0 a1 a2 n 1 a5 a6 a7 a8 (some (.d (plZ 1))) a10 a11) = .ok (.d (.bl false)) (st a0 a1 a2 n 1 a5 a6 a7 a8 (some (.d (plZ 1))) a10 a11) := by kernel_rfl
theorem q2_2 : q2 (st a0 a1 a2 n 2 a5 a6 a7 a8 (some (.d (plZ 2))) a10 a11) = .ok (.d (.bl false)) (st a0 a1 a2 n 2 a5 a6 a7 a8 (some (.d (plZ 2))) a10 a11) := by kernel_rfl
theorem q2_3 : q2 (st a0 a1 a2 n 3 a5 a6 a7 a8 (some (.d (plZ 3))) a10 a11) = .ok (.d (.bl false)) (st a0 a1 a2 n 3 a5 a6 a7 a8 (some (.d (plZ 3))) a10 a11) := by kernel_rfl
theorem q2_4 : q2 (st a0 a1 a2 n 4 a5 a6 a7 a8 (some (.d (plZ 4))) a10 a11) = .ok (.d (.bl false)) (st a0 a1 a2 n 4 a5 a6 a7 a8 (some (.d (plZ 4))) a10 a11) := by kernel_rfl
theorem q2_5 : q2 (st a0 a1 a2 n 5 a5 a6 a7 a8 (some (.d (plZ 5))) a10 a11) = .ok (.d (.bl false)) (st a0 a1 a2 n 5 a5 a6 a7 a8 (some (.d (plZ 5))) a10 a11) := by kernel_rfl
theorem q2_6 : q2 (st a0 a1 a2 n 6 a5 a6 a7 a8 (some (.d (plZ 6))) a10 a11) = .ok (.d (.bl false)) (st a0 a1 a2 n 6 a5 a6 a7 a8 (some (.d (plZ 6))) a10 a11) := by kernel_rfl
theorem q2_7 : q2 (st a0 a1 a2 n 7 a5 a6 a7 a8 (some (.d (plZ 7))) a10 a11) = .ok (.d (.bl false)) (st a0 a1 a2 n 7 a5 a6 a7 a8 (some (.d (plZ 7))) a10 a11) := by kernel_rfl
theorem q2_8 : q2 (st a0 a1 a2 n 8 a5 a6 a7 a8 (some (.d (plZ 8))) a10 a11) = .ok (.d (.bl false)) (st a0 a1 a2 n 8 a5 a6 a7 a8 (some (.d (plZ 8))) a10 a11) := by kernel_rfl
theorem q2_9 : q2 (st a0 a1 a2 n 9 a5 a6 a7 a8 (some (.d (plZ 9))) a10 a11) = .ok (.d (.bl false)) (st a0 a1 a2 n 9 a5 a6 a7 a8 (some (.d (plZ 9))) a10 a11) := by kernel_rfl
theorem q2_10 : q2 (st a0 a1 a2 n 10 a5 a6 a7 a8 (some (.d (plZ 10))) a10 a11) = .ok (.d (.bl false)) (st a0 a1 a2 n 10 a5 a6 a7 a8 (some (.d (plZ 10))) a10 a11) := by kernel_rfl
theorem q2_11 : q2 (st a0 a1 a2 n 11 a5 a6 a7 a8 (some (.d (plZ 11))) a10 a11) = .ok (.d (.bl false)) (st a0 a1 a2 n 11 a5 a6 a7 a8 (some (.d (plZ 11))) a10 a11) := by kernel_rfl
theorem q2_12 : q2 (st a0 a1 a2 n 12 a5 a6 a7 a8 (some (.d (plZ 12))) a10 a11) = .ok (.d (.bl false)) (st a0 a1 a2 n 12 a5 a6 a7 a8 (some (.d (plZ 12))) a10 a11) := by kernel_rfl
theorem q2_13 : q2 (st a0 a1 a2 n 13 a5 a6 a7 a8 (some (.d (plZ 13))) a10 a11) = .ok (.d (.bl false)) (st a0 a1 a2 n 13 a5 a6 a7 a8 (some (.d (plZ 13))) a10 a11) := by kernel_rfl
theorem q2_14 : q2 (st a0 a1 a2 n 14 a5 a6 a7 a8 (some (.d (plZ 14))) a10 a11) = .ok (.d (.bl false)) (st a0 a1 a2 n 14 a5 a6 a7 a8 (some (.d (plZ 14))) a10 a11) := by kernel_rfl
theorem q2_15 : q2 (st a0 a1 a2 n 15 a5 a6 a7 a8 (some (.d (plZ 15))) a10 a11) = .ok (.d (.bl false)) (st a0 a1 a2 n 15 a5 a6 a7 a8 (some (.d (plZ 15))) a10 a11) := by kernel_rfl
theorem q2_16 : q2 (st a0 a1 a2 n 16 a5 a6 a7 a8 (some (.d (plZ 16))) a10 a11) = .ok (.d (.bl false)) (st a0 a1 a2 n 16 a5 a6 a7 a8 (some (.d (plZ 16))) a10 a11) := by kernel_rfl
end
section
variable (a0 a1 a2 a5 a6 a7 a8 a9 a10 a11 : Option W) (n m : Nat)
abbrev st2 : Rho := st a0 a1 a2 n m a5 a6 a7 (some (.d (plZ n))) (some (.d (plZ m))) a10 a11
theorem q2_ok {m : Nat} (h3 : 1 ≤ m) (h4 : m ≤ 16) : q2 (st2 a0 a1 a2 a5 a6 a7 a10 a11 n m) = .ok (.d (.bl false)) (st2 a0 a1 a2 a5 a6 a7 a10 a11 n m) := by
  have c : m = 1 ∨ m = 2 ∨ m = 3 ∨ m = 4 ∨ m = 5 ∨ m = 6 ∨ m = 7 ∨ m = 8 ∨ m = 9 ∨ m = 10 ∨ m = 11 ∨ m = 12 ∨ m = 13 ∨ m = 14 ∨ m = 15 ∨ m = 16 := by omega
  rcases c with rfl | rfl | rfl | rfl | rfl | rfl | rfl | rfl | rfl | rfl | rfl | rfl | rfl | rfl | rfl | rfl
  · exact q2_1 _ _ _ _ _ _ _ _ _ _
  · exact q2_2 _ _ _ _ _ _ _ _ _ _
  · exact q2_3 _ _ _ _ _ _ _ _ _ _
  · exact q2_4 _ _ _ _ _ _ _ _ _ _
  · exact q2_5 _ _ _ _ _ _ _ _ _ _
  · exact q2_6 _ _ _ _ _ _ _ _ _ _
  · exact q2_7 _ _ _ _ _ _ _ _ _ _
  · exact q2_8 _ _ _ _ _ _ _ _ _ _
  · exact q2_9 _ _ _ _ _ _ _ _ _ _
  · exact q2_10 _ _ _ _ _ _ _ _ _ _
  · exact q2_11 _ _ _ _ _ _ _ _ _ _
  · exact q2_12 _ _ _ _ _ _ _ _ _ _
  · exact q2_13 _ _ _ _ _ _ _ _ _ _
  · exact q2_14 _ _ _ _ _ _ _ _ _ _
  · exact q2_15 _ _ _ _ _ _ _ _ _ _
  · exact q2_16 _ _ _ _ _ _ _ _ _ _
theorem g1_ok {n m : Nat} (h1 : 1 ≤ n) (h2 : n ≤ 30) (h3 : 1 ≤ m) (h4 : m ≤ 16) : callM F_law_gcd (consA (datA (slotM 3)) (consA (datA (slotM 4)) nilA)) (st2 a0 a1 a2 a5 a6 a7 a10 a11 n m) = .ok (.d (.int (Nat.gcd n m : Nat))) (st2 a0 a1 a2 a5 a6 a7 a10 a11 n m) :=
  ev_call2 (a := .int n) (b := .int m) rfl rfl (gcd_ok h1 h2 h3 h4)
theorem g2_ok {n m : Nat} (h1 : 1 ≤ n) (h2 : n ≤ 30) (h3 : 1 ≤ m) (h4 : m ≤ 16) : callM F_law_power_less (consA (datA (callM F_law_gcd (consA (datA (slotM 3)) (consA (datA (slotM 4)) nilA)))) nilA) (st2 a0 a1 a2 a5 a6 a7 a10 a11 n m) = .ok (.d (plZ (Nat.gcd n m))) (st2 a0 a1 a2 a5 a6 a7 a10 a11 n m) :=
  ev_call1 (a := .int (Nat.gcd n m : Nat)) (ev_dat (g1_ok a0 a1 a2 a5 a6 a7 a10 a11 h1 h2 h3 h4)) (pow_ok (gcd_pos h3 h4).1 (by have := (gcd_pos (a := n) h3 h4).2; omega))
theorem g3_ok {n m : Nat} (h1 : 1 ≤ n) (h2 : n ≤ 30) (h3 : 1 ≤ m) (h4 : m ≤ 16) : callM F_common (consA (datA (slotM 8)) (consA (datA (slotM 9)) nilA)) (st2 a0 a1 a2 a5 a6 a7 a10 a11 n m) = .ok (.d (plZ (Nat.gcd n m))) (st2 a0 a1 a2 a5 a6 a7 a10 a11 n m) :=
  ev_call2 (a := plZ n) (b := plZ m) rfl rfl (common_ok h1 h2 h3 h4)
theorem q1_ok {n m : Nat} (h1 : 1 ≤ n) (h2 : n ≤ 30) (h3 : 1 ≤ m) (h4 : m ≤ 16) : q1 (st2 a0 a1 a2 a5 a6 a7 a10 a11 n m) = .ok (.d (.bl false)) (st2 a0 a1 a2 a5 a6 a7 a10 a11 n m) :=
  ev_cmp (ev_dat (g3_ok a0 a1 a2 a5 a6 a7 a10 a11 h1 h2 h3 h4)) (ev_dat (g2_ok a0 a1 a2 a5 a6 a7 a10 a11 h1 h2 h3 h4)) rfl rfl (ne_ok (gcd_pos h3 h4).1 (gcd_pos h3 h4).2)
theorem b7_ok {n m : Nat} (h1 : 1 ≤ n) (h2 : n ≤ 30) (h3 : 1 ≤ m) (h4 : m ≤ 16) : b7 (st2 a0 a1 a2 a5 a6 a7 a10 a11 n m) = .ok .nx (st2 a0 a1 a2 a5 a6 a7 a10 a11 n m) := by
  rw [b7_is]
  exact ev_if (ev_or (ev_bool (q1_ok a0 a1 a2 a5 a6 a7 a10 a11 h1 h2 h3 h4)) (ev_bool (q2_ok a0 a1 a2 a5 a6 a7 a10 a11 n h3 h4))) rfl
theorem b6_ok {n m : Nat} (h1 : 1 ≤ n) (h2 : n ≤ 30) (h3 : 1 ≤ m) (h4 : m ≤ 16) : b6 (st a0 a1 a2 n m a5 a6 a7 a8 a9 a10 a11) = .ok .nx (st2 a0 a1 a2 a5 a6 a7 a10 a11 n m) :=
  have e1 : callM F_law_power_less (consA (datA (slotM 3)) nilA) (st a0 a1 a2 n m a5 a6 a7 a8 a9 a10 a11) = .ok (.d (plZ n)) (st a0 a1 a2 n m a5 a6 a7 a8 a9 a10 a11) := ev_call1 (a := .int n) rfl (pow_ok h1 h2)
  have e2 : callM F_law_power_less (consA (datA (slotM 4)) nilA) (st a0 a1 a2 n m a5 a6 a7 a8 a9 a10 a11) = .ok (.d (plZ m)) (st a0 a1 a2 n m a5 a6 a7 a8 a9 a10 a11) := ev_call1 (a := .int m) rfl (pow_ok h3 (by omega))
  ev_par (io := []) (i := 8) (j := 9) e1 e2 rfl
theorem pair_ok {n m : Nat} (h1 : 1 ≤ n) (h2 : n ≤ 30) (h3 : 1 ≤ m) (h4 : m ≤ 16) : seqs [b6, b7] nextM (st a0 a1 a2 n m a5 a6 a7 a8 a9 a10 a11) = .ok .nx (st2 a0 a1 a2 a5 a6 a7 a10 a11 n m) := by
  show seqM b6 (seqM b7 nextM) _ = _
  rw [seq_nx (b6_ok a0 a1 a2 a5 a6 a7 a8 a9 a10 a11 h1 h2 h3 h4), seq_nx (b7_ok a0 a1 a2 a5 a6 a7 a10 a11 h1 h2 h3 h4)]
  rfl
end
end K21
end FL
set_option Elab.async false
set_option linter.all false
set_option maxRecDepth 100000
set_option maxHeartbeats 0
namespace FL
namespace K21
open PySem PySem.Spec L2
open PyProof.Rows hiding St
section
variable (a0 a1 a2 a5 a6 a7 a8 a9 a10 a11 : Option W) (m : Int)
theorem s1_1 : b1 (st a0 a1 a2 1 m a5 a6 a7 a8 a9 a10 a11) = .ok .nx (st a0 a1 a2 1 m (some (.d (rowD [-1, 1]))) (some (.d (rowD [1, 1]))) a7 a8 a9 a10 a11) :=
  have e1 : callM F_ring_row (consA (datA (slotM 3)) nilA) (st a0 a1 a2 1 m a5 a6 a7 a8 a9 a10 a11) = .ok (.d (rowD [-1, 1])) (st a0 a1 a2 1 m a5 a6 a7 a8 a9 a10 a11) := ev_call1 (a := .int 1) rfl rrow_1
  have e2 : callM F_ring_row (consA (datA (binM .Mult (datA (constM (.int (2)))) (slotA 3))) nilA) (st a0 a1 a2 1 m a5 a6 a7 a8 a9 a10 a11) = .ok (.d (rowD [1, 1])) (st a0 a1 a2 1 m a5 a6 a7 a8 a9 a10 a11) := ev_call1 (a := .int 2) (ev_dat (w := .d (.int 2)) (by kernel_rfl)) rrow_2
  ev_par (io := []) (i := 5) (j := 6) e1 e2 rfl
theorem num_1 : ∃ r5 r6 r7, (∀ a0 a1 a2 a5 a6 a7 a8 a9 a10 a11, seqs [b1, b2, b3, b4, b5] nextM (st a0 a1 a2 1 m a5 a6 a7 a8 a9 a10 a11) = .ok .nx (st a0 a1 a2 1 m r5 r6 r7 a8 a9 a10 a11)) ∧ (∀ a0 a1 a2 a6 a7 a8 a9 a10 a11, seqs [b10, b11] nextM (st a0 a1 a2 1 m r5 a6 a7 a8 a9 a10 a11) = .ok .nx (st a0 a1 a2 1 m r5 a6 a7 a8 a9 a10 a11)) := by
  refine ⟨(some (.d (rowD [-1, 1]))), (some (.d (rowD [1, 1]))), some (.d (.bl true)), fun a0 a1 a2 a5 a6 a7 a8 a9 a10 a11 => ?_, fun a0 a1 a2 a6 a7 a8 a9 a10 a11 => ?_⟩
  · show seqM b1 (seqs [b2, b3, b4, b5] nextM) _ = _
    rw [seq_nx (s1_1 a0 a1 a2 a5 a6 a7 a8 a9 a10 a11 m)]
    apply numA_1
  · apply numC_1
theorem s1_2 : b1 (st a0 a1 a2 2 m a5 a6 a7 a8 a9 a10 a11) = .ok .nx (st a0 a1 a2 2 m (some (.d (rowD [1, 1]))) (some (.d (rowD [1, 0, 1]))) a7 a8 a9 a10 a11) :=
  have e1 : callM F_ring_row (consA (datA (slotM 3)) nilA) (st a0 a1 a2 2 m a5 a6 a7 a8 a9 a10 a11) = .ok (.d (rowD [1, 1])) (st a0 a1 a2 2 m a5 a6 a7 a8 a9 a10 a11) := ev_call1 (a := .int 2) rfl rrow_2
  have e2 : callM F_ring_row (consA (datA (binM .Mult (datA (constM (.int (2)))) (slotA 3))) nilA) (st a0 a1 a2 2 m a5 a6 a7 a8 a9 a10 a11) = .ok (.d (rowD [1, 0, 1])) (st a0 a1 a2 2 m a5 a6 a7 a8 a9 a10 a11) := ev_call1 (a := .int 4) (ev_dat (w := .d (.int 4)) (by kernel_rfl)) rrow_4
  ev_par (io := []) (i := 5) (j := 6) e1 e2 rfl
theorem num_2 : ∃ r5 r6 r7, (∀ a0 a1 a2 a5 a6 a7 a8 a9 a10 a11, seqs [b1, b2, b3, b4, b5] nextM (st a0 a1 a2 2 m a5 a6 a7 a8 a9 a10 a11) = .ok .nx (st a0 a1 a2 2 m r5 r6 r7 a8 a9 a10 a11)) ∧ (∀ a0 a1 a2 a6 a7 a8 a9 a10 a11, seqs [b10, b11] nextM (st a0 a1 a2 2 m r5 a6 a7 a8 a9 a10 a11) = .ok .nx (st a0 a1 a2 2 m r5 a6 a7 a8 a9 a10 a11)) := by
  refine ⟨(some (.d (rowD [1, 1]))), (some (.d (rowD [1, 0, 1]))), some (.d (.bl false)), fun a0 a1 a2 a5 a6 a7 a8 a9 a10 a11 => ?_, fun a0 a1 a2 a6 a7 a8 a9 a10 a11 => ?_⟩
  · show seqM b1 (seqs [b2, b3, b4, b5] nextM) _ = _
    rw [seq_nx (s1_2 a0 a1 a2 a5 a6 a7 a8 a9 a10 a11 m)]
    apply numA_2
  · apply numC_2
theorem s1_3 : b1 (st a0 a1 a2 3 m a5 a6 a7 a8 a9 a10 a11) = .ok .nx (st a0 a1 a2 3 m (some (.d (rowD [1, 1, 1]))) (some (.d (rowD [1, -1, 1]))) a7 a8 a9 a10 a11) :=
  have e1 : callM F_ring_row (consA (datA (slotM 3)) nilA) (st a0 a1 a2 3 m a5 a6 a7 a8 a9 a10 a11) = .ok (.d (rowD [1, 1, 1])) (st a0 a1 a2 3 m a5 a6 a7 a8 a9 a10 a11) := ev_call1 (a := .int 3) rfl rrow_3
  have e2 : callM F_ring_row (consA (datA (binM .Mult (datA (constM (.int (2)))) (slotA 3))) nilA) (st a0 a1 a2 3 m a5 a6 a7 a8 a9 a10 a11) = .ok (.d (rowD [1, -1, 1])) (st a0 a1 a2 3 m a5 a6 a7 a8 a9 a10 a11) := ev_call1 (a := .int 6) (ev_dat (w := .d (.int 6)) (by kernel_rfl)) rrow_6
  ev_par (io := []) (i := 5) (j := 6) e1 e2 rfl
theorem num_3 : ∃ r5 r6 r7, (∀ a0 a1 a2 a5 a6 a7 a8 a9 a10 a11, seqs [b1, b2, b3, b4, b5] nextM (st a0 a1 a2 3 m a5 a6 a7 a8 a9 a10 a11) = .ok .nx (st a0 a1 a2 3 m r5 r6 r7 a8 a9 a10 a11)) ∧ (∀ a0 a1 a2 a6 a7 a8 a9 a10 a11, seqs [b10, b11] nextM (st a0 a1 a2 3 m r5 a6 a7 a8 a9 a10 a11) = .ok .nx (st a0 a1 a2 3 m r5 a6 a7 a8 a9 a10 a11)) := by
  refine ⟨(some (.d (rowD [1, 1, 1]))), (some (.d (rowD [1, -1, 1]))), some (.d (.bl true)), fun a0 a1 a2 a5 a6 a7 a8 a9 a10 a11 => ?_, fun a0 a1 a2 a6 a7 a8 a9 a10 a11 => ?_⟩
  · show seqM b1 (seqs [b2, b3, b4, b5] nextM) _ = _
    rw [seq_nx (s1_3 a0 a1 a2 a5 a6 a7 a8 a9 a10 a11 m)]
    apply numA_3
  · apply numC_3
theorem s1_4 : b1 (st a0 a1 a2 4 m a5 a6 a7 a8 a9 a10 a11) = .ok .nx (st a0 a1 a2 4 m (some (.d (rowD [1, 0, 1]))) (some (.d (rowD [1, 0, 0, 0, 1]))) a7 a8 a9 a10 a11) :=
  have e1 : callM F_ring_row (consA (datA (slotM 3)) nilA) (st a0 a1 a2 4 m a5 a6 a7 a8 a9 a10 a11) = .ok (.d (rowD [1, 0, 1])) (st a0 a1 a2 4 m a5 a6 a7 a8 a9 a10 a11) := ev_call1 (a := .int 4) rfl rrow_4
  have e2 : callM F_ring_row (consA (datA (binM .Mult (datA (constM (.int (2)))) (slotA 3))) nilA) (st a0 a1 a2 4 m a5 a6 a7 a8 a9 a10 a11) = .ok (.d (rowD [1, 0, 0, 0, 1])) (st a0 a1 a2 4 m a5 a6 a7 a8 a9 a10 a11) := ev_call1 (a := .int 8) (ev_dat (w := .d (.int 8)) (by kernel_rfl)) rrow_8
  ev_par (io := []) (i := 5) (j := 6) e1 e2 rfl
theorem num_4 : ∃ r5 r6 r7, (∀ a0 a1 a2 a5 a6 a7 a8 a9 a10 a11, seqs [b1, b2, b3, b4, b5] nextM (st a0 a1 a2 4 m a5 a6 a7 a8 a9 a10 a11) = .ok .nx (st a0 a1 a2 4 m r5 r6 r7 a8 a9 a10 a11)) ∧ (∀ a0 a1 a2 a6 a7 a8 a9 a10 a11, seqs [b10, b11] nextM (st a0 a1 a2 4 m r5 a6 a7 a8 a9 a10 a11) = .ok .nx (st a0 a1 a2 4 m r5 a6 a7 a8 a9 a10 a11)) := by
  refine ⟨(some (.d (rowD [1, 0, 1]))), (some (.d (rowD [1, 0, 0, 0, 1]))), some (.d (.bl false)), fun a0 a1 a2 a5 a6 a7 a8 a9 a10 a11 => ?_, fun a0 a1 a2 a6 a7 a8 a9 a10 a11 => ?_⟩
  · show seqM b1 (seqs [b2, b3, b4, b5] nextM) _ = _
    rw [seq_nx (s1_4 a0 a1 a2 a5 a6 a7 a8 a9 a10 a11 m)]
    apply numA_4
  · apply numC_4
theorem s1_5 : b1 (st a0 a1 a2 5 m a5 a6 a7 a8 a9 a10 a11) = .ok .nx (st a0 a1 a2 5 m (some (.d (rowD [1, 1, 1, 1, 1]))) (some (.d (rowD [1, -1, 1, -1, 1]))) a7 a8 a9 a10 a11) :=
  have e1 : callM F_ring_row (consA (datA (slotM 3)) nilA) (st a0 a1 a2 5 m a5 a6 a7 a8 a9 a10 a11) = .ok (.d (rowD [1, 1, 1, 1, 1])) (st a0 a1 a2 5 m a5 a6 a7 a8 a9 a10 a11) := ev_call1 (a := .int 5) rfl rrow_5
  have e2 : callM F_ring_row (consA (datA (binM .Mult (datA (constM (.int (2)))) (slotA 3))) nilA) (st a0 a1 a2 5 m a5 a6 a7 a8 a9 a10 a11) = .ok (.d (rowD [1, -1, 1, -1, 1])) (st a0 a1 a2 5 m a5 a6 a7 a8 a9 a10 a11) := ev_call1 (a := .int 10) (ev_dat (w := .d (.int 10)) (by kernel_rfl)) rrow_10
  ev_par (io := []) (i := 5) (j := 6) e1 e2 rfl
theorem num_5 : ∃ r5 r6 r7, (∀ a0 a1 a2 a5 a6 a7 a8 a9 a10 a11, seqs [b1, b2, b3, b4, b5] nextM (st a0 a1 a2 5 m a5 a6 a7 a8 a9 a10 a11) = .ok .nx (st a0 a1 a2 5 m r5 r6 r7 a8 a9 a10 a11)) ∧ (∀ a0 a1 a2 a6 a7 a8 a9 a10 a11, seqs [b10, b11] nextM (st a0 a1 a2 5 m r5 a6 a7 a8 a9 a10 a11) = .ok .nx (st a0 a1 a2 5 m r5 a6 a7 a8 a9 a10 a11)) := by
  refine ⟨(some (.d (rowD [1, 1, 1, 1, 1]))), (some (.d (rowD [1, -1, 1, -1, 1]))), some (.d (.bl true)), fun a0 a1 a2 a5 a6 a7 a8 a9 a10 a11 => ?_, fun a0 a1 a2 a6 a7 a8 a9 a10 a11 => ?_⟩
  · show seqM b1 (seqs [b2, b3, b4, b5] nextM) _ = _
    rw [seq_nx (s1_5 a0 a1 a2 a5 a6 a7 a8 a9 a10 a11 m)]
    apply numA_5
  · apply numC_5
theorem s1_6 : b1 (st a0 a1 a2 6 m a5 a6 a7 a8 a9 a10 a11) = .ok .nx (st a0 a1 a2 6 m (some (.d (rowD [1, -1, 1]))) (some (.d (rowD [1, 0, -1, 0, 1]))) a7 a8 a9 a10 a11) :=
  have e1 : callM F_ring_row (consA (datA (slotM 3)) nilA) (st a0 a1 a2 6 m a5 a6 a7 a8 a9 a10 a11) = .ok (.d (rowD [1, -1, 1])) (st a0 a1 a2 6 m a5 a6 a7 a8 a9 a10 a11) := ev_call1 (a := .int 6) rfl rrow_6
  have e2 : callM F_ring_row (consA (datA (binM .Mult (datA (constM (.int (2)))) (slotA 3))) nilA) (st a0 a1 a2 6 m a5 a6 a7 a8 a9 a10 a11) = .ok (.d (rowD [1, 0, -1, 0, 1])) (st a0 a1 a2 6 m a5 a6 a7 a8 a9 a10 a11) := ev_call1 (a := .int 12) (ev_dat (w := .d (.int 12)) (by kernel_rfl)) rrow_12
  ev_par (io := []) (i := 5) (j := 6) e1 e2 rfl
theorem num_6 : ∃ r5 r6 r7, (∀ a0 a1 a2 a5 a6 a7 a8 a9 a10 a11, seqs [b1, b2, b3, b4, b5] nextM (st a0 a1 a2 6 m a5 a6 a7 a8 a9 a10 a11) = .ok .nx (st a0 a1 a2 6 m r5 r6 r7 a8 a9 a10 a11)) ∧ (∀ a0 a1 a2 a6 a7 a8 a9 a10 a11, seqs [b10, b11] nextM (st a0 a1 a2 6 m r5 a6 a7 a8 a9 a10 a11) = .ok .nx (st a0 a1 a2 6 m r5 a6 a7 a8 a9 a10 a11)) := by
  refine ⟨(some (.d (rowD [1, -1, 1]))), (some (.d (rowD [1, 0, -1, 0, 1]))), some (.d (.bl false)), fun a0 a1 a2 a5 a6 a7 a8 a9 a10 a11 => ?_, fun a0 a1 a2 a6 a7 a8 a9 a10 a11 => ?_⟩
  · show seqM b1 (seqs [b2, b3, b4, b5] nextM) _ = _
    rw [seq_nx (s1_6 a0 a1 a2 a5 a6 a7 a8 a9 a10 a11 m)]
    apply numA_6
  · apply numC_6
theorem s1_7 : b1 (st a0 a1 a2 7 m a5 a6 a7 a8 a9 a10 a11) = .ok .nx (st a0 a1 a2 7 m (some (.d (rowD [1, 1, 1, 1, 1, 1, 1]))) (some (.d (rowD [1, -1, 1, -1, 1, -1, 1]))) a7 a8 a9 a10 a11) :=
  have e1 : callM F_ring_row (consA (datA (slotM 3)) nilA) (st a0 a1 a2 7 m a5 a6 a7 a8 a9 a10 a11) = .ok (.d (rowD [1, 1, 1, 1, 1, 1, 1])) (st a0 a1 a2 7 m a5 a6 a7 a8 a9 a10 a11) := ev_call1 (a := .int 7) rfl rrow_7
  have e2 : callM F_ring_row (consA (datA (binM .Mult (datA (constM (.int (2)))) (slotA 3))) nilA) (st a0 a1 a2 7 m a5 a6 a7 a8 a9 a10 a11) = .ok (.d (rowD [1, -1, 1, -1, 1, -1, 1])) (st a0 a1 a2 7 m a5 a6 a7 a8 a9 a10 a11) := ev_call1 (a := .int 14) (ev_dat (w := .d (.int 14)) (by kernel_rfl)) rrow_14
  ev_par (io := []) (i := 5) (j := 6) e1 e2 rfl
theorem num_7 : ∃ r5 r6 r7, (∀ a0 a1 a2 a5 a6 a7 a8 a9 a10 a11, seqs [b1, b2, b3, b4, b5] nextM (st a0 a1 a2 7 m a5 a6 a7 a8 a9 a10 a11) = .ok .nx (st a0 a1 a2 7 m r5 r6 r7 a8 a9 a10 a11)) ∧ (∀ a0 a1 a2 a6 a7 a8 a9 a10 a11, seqs [b10, b11] nextM (st a0 a1 a2 7 m r5 a6 a7 a8 a9 a10 a11) = .ok .nx (st a0 a1 a2 7 m r5 a6 a7 a8 a9 a10 a11)) := by
  refine ⟨(some (.d (rowD [1, 1, 1, 1, 1, 1, 1]))), (some (.d (rowD [1, -1, 1, -1, 1, -1, 1]))), some (.d (.bl true)), fun a0 a1 a2 a5 a6 a7 a8 a9 a10 a11 => ?_, fun a0 a1 a2 a6 a7 a8 a9 a10 a11 => ?_⟩
  · show seqM b1 (seqs [b2, b3, b4, b5] nextM) _ = _
    rw [seq_nx (s1_7 a0 a1 a2 a5 a6 a7 a8 a9 a10 a11 m)]
    apply numA_7
  · apply numC_7
theorem s1_8 : b1 (st a0 a1 a2 8 m a5 a6 a7 a8 a9 a10 a11) = .ok .nx (st a0 a1 a2 8 m (some (.d (rowD [1, 0, 0, 0, 1]))) (some (.d (rowD [1, 0, 0, 0, 0, 0, 0, 0, 1]))) a7 a8 a9 a10 a11) :=
  have e1 : callM F_ring_row (consA (datA (slotM 3)) nilA) (st a0 a1 a2 8 m a5 a6 a7 a8 a9 a10 a11) = .ok (.d (rowD [1, 0, 0, 0, 1])) (st a0 a1 a2 8 m a5 a6 a7 a8 a9 a10 a11) := ev_call1 (a := .int 8) rfl rrow_8
  have e2 : callM F_ring_row (consA (datA (binM .Mult (datA (constM (.int (2)))) (slotA 3))) nilA) (st a0 a1 a2 8 m a5 a6 a7 a8 a9 a10 a11) = .ok (.d (rowD [1, 0, 0, 0, 0, 0, 0, 0, 1])) (st a0 a1 a2 8 m a5 a6 a7 a8 a9 a10 a11) := ev_call1 (a := .int 16) (ev_dat (w := .d (.int 16)) (by kernel_rfl)) rrow_16
  ev_par (io := []) (i := 5) (j := 6) e1 e2 rfl
theorem num_8 : ∃ r5 r6 r7, (∀ a0 a1 a2 a5 a6 a7 a8 a9 a10 a11, seqs [b1, b2, b3, b4, b5] nextM (st a0 a1 a2 8 m a5 a6 a7 a8 a9 a10 a11) = .ok .nx (st a0 a1 a2 8 m r5 r6 r7 a8 a9 a10 a11)) ∧ (∀ a0 a1 a2 a6 a7 a8 a9 a10 a11, seqs [b10, b11] nextM (st a0 a1 a2 8 m r5 a6 a7 a8 a9 a10 a11) = .ok .nx (st a0 a1 a2 8 m r5 a6 a7 a8 a9 a10 a11)) := by
  refine ⟨(some (.d (rowD [1, 0, 0, 0, 1]))), (some (.d (rowD [1, 0, 0, 0, 0, 0, 0, 0, 1]))), some (.d (.bl false)), fun a0 a1 a2 a5 a6 a7 a8 a9 a10 a11 => ?_, fun a0 a1 a2 a6 a7 a8 a9 a10 a11 => ?_⟩
  · show seqM b1 (seqs [b2, b3, b4, b5] nextM) _ = _
    rw [seq_nx (s1_8 a0 a1 a2 a5 a6 a7 a8 a9 a10 a11 m)]
    apply numA_8
  · apply numC_8
theorem s1_9 : b1 (st a0 a1 a2 9 m a5 a6 a7 a8 a9 a10 a11) = .ok .nx (st a0 a1 a2 9 m (some (.d (rowD [1, 0, 0, 1, 0, 0, 1]))) (some (.d (rowD [1, 0, 0, -1, 0, 0, 1]))) a7 a8 a9 a10 a11) :=
  have e1 : callM F_ring_row (consA (datA (slotM 3)) nilA) (st a0 a1 a2 9 m a5 a6 a7 a8 a9 a10 a11) = .ok (.d (rowD [1, 0, 0, 1, 0, 0, 1])) (st a0 a1 a2 9 m a5 a6 a7 a8 a9 a10 a11) := ev_call1 (a := .int 9) rfl rrow_9
  have e2 : callM F_ring_row (consA (datA (binM .Mult (datA (constM (.int (2)))) (slotA 3))) nilA) (st a0 a1 a2 9 m a5 a6 a7 a8 a9 a10 a11) = .ok (.d (rowD [1, 0, 0, -1, 0, 0, 1])) (st a0 a1 a2 9 m a5 a6 a7 a8 a9 a10 a11) := ev_call1 (a := .int 18) (ev_dat (w := .d (.int 18)) (by kernel_rfl)) rrow_18
  ev_par (io := []) (i := 5) (j := 6) e1 e2 rfl
theorem num_9 : ∃ r5 r6 r7, (∀ a0 a1 a2 a5 a6 a7 a8 a9 a10 a11, seqs [b1, b2, b3, b4, b5] nextM (st a0 a1 a2 9 m a5 a6 a7 a8 a9 a10 a11) = .ok .nx (st a0 a1 a2 9 m r5 r6 r7 a8 a9 a10 a11)) ∧ (∀ a0 a1 a2 a6 a7 a8 a9 a10 a11, seqs [b10, b11] nextM (st a0 a1 a2 9 m r5 a6 a7 a8 a9 a10 a11) = .ok .nx (st a0 a1 a2 9 m r5 a6 a7 a8 a9 a10 a11)) := by
  refine ⟨(some (.d (rowD [1, 0, 0, 1, 0, 0, 1]))), (some (.d (rowD [1, 0, 0, -1, 0, 0, 1]))), some (.d (.bl true)), fun a0 a1 a2 a5 a6 a7 a8 a9 a10 a11 => ?_, fun a0 a1 a2 a6 a7 a8 a9 a10 a11 => ?_⟩
  · show seqM b1 (seqs [b2, b3, b4, b5] nextM) _ = _
    rw [seq_nx (s1_9 a0 a1 a2 a5 a6 a7 a8 a9 a10 a11 m)]
    apply numA_9
  · apply numC_9
theorem s1_10 : b1 (st a0 a1 a2 10 m a5 a6 a7 a8 a9 a10 a11) = .ok .nx (st a0 a1 a2 10 m (some (.d (rowD [1, -1, 1, -1, 1]))) (some (.d (rowD [1, 0, -1, 0, 1, 0, -1, 0, 1]))) a7 a8 a9 a10 a11) :=
  have e1 : callM F_ring_row (consA (datA (slotM 3)) nilA) (st a0 a1 a2 10 m a5 a6 a7 a8 a9 a10 a11) = .ok (.d (rowD [1, -1, 1, -1, 1])) (st a0 a1 a2 10 m a5 a6 a7 a8 a9 a10 a11) := ev_call1 (a := .int 10) rfl rrow_10
  have e2 : callM F_ring_row (consA (datA (binM .Mult (datA (constM (.int (2)))) (slotA 3))) nilA) (st a0 a1 a2 10 m a5 a6 a7 a8 a9 a10 a11) = .ok (.d (rowD [1, 0, -1, 0, 1, 0, -1, 0, 1])) (st a0 a1 a2 10 m a5 a6 a7 a8 a9 a10 a11) := ev_call1 (a := .int 20) (ev_dat (w := .d (.int 20)) (by kernel_rfl)) rrow_20
  ev_par (io := []) (i := 5) (j := 6) e1 e2 rfl
theorem num_10 : ∃ r5 r6 r7, (∀ a0 a1 a2 a5 a6 a7 a8 a9 a10 a11, seqs [b1, b2, b3, b4, b5] nextM (st a0 a1 a2 10 m a5 a6 a7 a8 a9 a10 a11) = .ok .nx (st a0 a1 a2 10 m r5 r6 r7 a8 a9 a10 a11)) ∧ (∀ a0 a1 a2 a6 a7 a8 a9 a10 a11, seqs [b10, b11] nextM (st a0 a1 a2 10 m r5 a6 a7 a8 a9 a10 a11) = .ok .nx (st a0 a1 a2 10 m r5 a6 a7 a8 a9 a10 a11)) := by
  refine ⟨(some (.d (rowD [1, -1, 1, -1, 1]))), (some (.d (rowD [1, 0, -1, 0, 1, 0, -1, 0, 1]))), some (.d (.bl false)), fun a0 a1 a2 a5 a6 a7 a8 a9 a10 a11 => ?_, fun a0 a1 a2 a6 a7 a8 a9 a10 a11 => ?_⟩
  · show seqM b1 (seqs [b2, b3, b4, b5] nextM) _ = _
    rw [seq_nx (s1_10 a0 a1 a2 a5 a6 a7 a8 a9 a10 a11 m)]
    apply numA_10
  · apply numC_10
theorem s1_11 : b1 (st a0 a1 a2 11 m a5 a6 a7 a8 a9 a10 a11) = .ok .nx (st a0 a1 a2 11 m (some (.d (rowD [1, 1, 1, 1, 1, 1, 1, 1, 1, 1, 1]))) (some (.d (rowD [1, -1, 1, -1, 1, -1, 1, -1, 1, -1, 1]))) a7 a8 a9 a10 a11) :=
  have e1 : callM F_ring_row (consA (datA (slotM 3)) nilA) (st a0 a1 a2 11 m a5 a6 a7 a8 a9 a10 a11) = .ok (.d (rowD [1, 1, 1, 1, 1, 1, 1, 1, 1, 1, 1])) (st a0 a1 a2 11 m a5 a6 a7 a8 a9 a10 a11) := ev_call1 (a := .int 11) rfl rrow_11
  have e2 : callM F_ring_row (consA (datA (binM .Mult (datA (constM (.int (2)))) (slotA 3))) nilA) (st a0 a1 a2 11 m a5 a6 a7 a8 a9 a10 a11) = .ok (.d (rowD [1, -1, 1, -1, 1, -1, 1, -1, 1, -1, 1])) (st a0 a1 a2 11 m a5 a6 a7 a8 a9 a10 a11) := ev_call1 (a := .int 22) (ev_dat (w := .d (.int 22)) (by kernel_rfl)) rrow_22
  ev_par (io := []) (i := 5) (j := 6) e1 e2 rfl
theorem num_11 : ∃ r5 r6 r7, (∀ a0 a1 a2 a5 a6 a7 a8 a9 a10 a11, seqs [b1, b2, b3, b4, b5] nextM (st a0 a1 a2 11 m a5 a6 a7 a8 a9 a10 a11) = .ok .nx (st a0 a1 a2 11 m r5 r6 r7 a8 a9 a10 a11)) ∧ (∀ a0 a1 a2 a6 a7 a8 a9 a10 a11, seqs [b10, b11] nextM (st a0 a1 a2 11 m r5 a6 a7 a8 a9 a10 a11) = .ok .nx (st a0 a1 a2 11 m r5 a6 a7 a8 a9 a10 a11)) := by
  refine ⟨(some (.d (rowD [1, 1, 1, 1, 1, 1, 1, 1, 1, 1, 1]))), (some (.d (rowD [1, -1, 1, -1, 1, -1, 1, -1, 1, -1, 1]))), some (.d (.bl true)), fun a0 a1 a2 a5 a6 a7 a8 a9 a10 a11 => ?_, fun a0 a1 a2 a6 a7 a8 a9 a10 a11 => ?_⟩
  · show seqM b1 (seqs [b2, b3, b4, b5] nextM) _ = _
    rw [seq_nx (s1_11 a0 a1 a2 a5 a6 a7 a8 a9 a10 a11 m)]
    apply numA_11
  · apply numC_11
theorem s1_12 : b1 (st a0 a1 a2 12 m a5 a6 a7 a8 a9 a10 a11) = .ok .nx (st a0 a1 a2 12 m (some (.d (rowD [1, 0, -1, 0, 1]))) (some (.d (rowD [1, 0, 0, 0, -1, 0, 0, 0, 1]))) a7 a8 a9 a10 a11) :=
  have e1 : callM F_ring_row (consA (datA (slotM 3)) nilA) (st a0 a1 a2 12 m a5 a6 a7 a8 a9 a10 a11) = .ok (.d (rowD [1, 0, -1, 0, 1])) (st a0 a1 a2 12 m a5 a6 a7 a8 a9 a10 a11) := ev_call1 (a := .int 12) rfl rrow_12
  have e2 : callM F_ring_row (consA (datA (binM .Mult (datA (constM (.int (2)))) (slotA 3))) nilA) (st a0 a1 a2 12 m a5 a6 a7 a8 a9 a10 a11) = .ok (.d (rowD [1, 0, 0, 0, -1, 0, 0, 0, 1])) (st a0 a1 a2 12 m a5 a6 a7 a8 a9 a10 a11) := ev_call1 (a := .int 24) (ev_dat (w := .d (.int 24)) (by kernel_rfl)) rrow_24
  ev_par (io := []) (i := 5) (j := 6) e1 e2 rfl
theorem num_12 : ∃ r5 r6 r7, (∀ a0 a1 a2 a5 a6 a7 a8 a9 a10 a11, seqs [b1, b2, b3, b4, b5] nextM (st a0 a1 a2 12 m a5 a6 a7 a8 a9 a10 a11) = .ok .nx (st a0 a1 a2 12 m r5 r6 r7 a8 a9 a10 a11)) ∧ (∀ a0 a1 a2 a6 a7 a8 a9 a10 a11, seqs [b10, b11] nextM (st a0 a1 a2 12 m r5 a6 a7 a8 a9 a10 a11) = .ok .nx (st a0 a1 a2 12 m r5 a6 a7 a8 a9 a10 a11)) := by
  refine ⟨(some (.d (rowD [1, 0, -1, 0, 1]))), (some (.d (rowD [1, 0, 0, 0, -1, 0, 0, 0, 1]))), some (.d (.bl false)), fun a0 a1 a2 a5 a6 a7 a8 a9 a10 a11 => ?_, fun a0 a1 a2 a6 a7 a8 a9 a10 a11 => ?_⟩
  · show seqM b1 (seqs [b2, b3, b4, b5] nextM) _ = _
    rw [seq_nx (s1_12 a0 a1 a2 a5 a6 a7 a8 a9 a10 a11 m)]
    apply numA_12
  · apply numC_12
theorem s1_13 : b1 (st a0 a1 a2 13 m a5 a6 a7 a8 a9 a10 a11) = .ok .nx (st a0 a1 a2 13 m (some (.d (rowD [1, 1, 1, 1, 1, 1, 1, 1, 1, 1, 1, 1, 1]))) (some (.d (rowD [1, -1, 1, -1, 1, -1, 1, -1, 1, -1, 1, -1, 1]))) a7 a8 a9 a10 a11) :=
  have e1 : callM F_ring_row (consA (datA (slotM 3)) nilA) (st a0 a1 a2 13 m a5 a6 a7 a8 a9 a10 a11) = .ok (.d (rowD [1, 1, 1, 1, 1, 1, 1, 1, 1, 1, 1, 1, 1])) (st a0 a1 a2 13 m a5 a6 a7 a8 a9 a10 a11) := ev_call1 (a := .int 13) rfl rrow_13
  have e2 : callM F_ring_row (consA (datA (binM .Mult (datA (constM (.int (2)))) (slotA 3))) nilA) (st a0 a1 a2 13 m a5 a6 a7 a8 a9 a10 a11) = .ok (.d (rowD [1, -1, 1, -1, 1, -1, 1, -1, 1, -1, 1, -1, 1])) (st a0 a1 a2 13 m a5 a6 a7 a8 a9 a10 a11) := ev_call1 (a := .int 26) (ev_dat (w := .d (.int 26)) (by kernel_rfl)) rrow_26
  ev_par (io := []) (i := 5) (j := 6) e1 e2 rfl
theorem num_13 : ∃ r5 r6 r7, (∀ a0 a1 a2 a5 a6 a7 a8 a9 a10 a11, seqs [b1, b2, b3, b4, b5] nextM (st a0 a1 a2 13 m a5 a6 a7 a8 a9 a10 a11) = .ok .nx (st a0 a1 a2 13 m r5 r6 r7 a8 a9 a10 a11)) ∧ (∀ a0 a1 a2 a6 a7 a8 a9 a10 a11, seqs [b10, b11] nextM (st a0 a1 a2 13 m r5 a6 a7 a8 a9 a10 a11) = .ok .nx (st a0 a1 a2 13 m r5 a6 a7 a8 a9 a10 a11)) := by
  refine ⟨(some (.d (rowD [1, 1, 1, 1, 1, 1, 1, 1, 1, 1, 1, 1, 1]))), (some (.d (rowD [1, -1, 1, -1, 1, -1, 1, -1, 1, -1, 1, -1, 1]))), some (.d (.bl true)), fun a0 a1 a2 a5 a6 a7 a8 a9 a10 a11 => ?_, fun a0 a1 a2 a6 a7 a8 a9 a10 a11 => ?_⟩
  · show seqM b1 (seqs [b2, b3, b4, b5] nextM) _ = _
    rw [seq_nx (s1_13 a0 a1 a2 a5 a6 a7 a8 a9 a10 a11 m)]
    apply numA_13
  · apply numC_13
theorem s1_14 : b1 (st a0 a1 a2 14 m a5 a6 a7 a8 a9 a10 a11) = .ok .nx (st a0 a1 a2 14 m (some (.d (rowD [1, -1, 1, -1, 1, -1, 1]))) (some (.d (rowD [1, 0, -1, 0, 1, 0, -1, 0, 1, 0, -1, 0, 1]))) a7 a8 a9 a10 a11) :=
  have e1 : callM F_ring_row (consA (datA (slotM 3)) nilA) (st a0 a1 a2 14 m a5 a6 a7 a8 a9 a10 a11) = .ok (.d (rowD [1, -1, 1, -1, 1, -1, 1])) (st a0 a1 a2 14 m a5 a6 a7 a8 a9 a10 a11) := ev_call1 (a := .int 14) rfl rrow_14
  have e2 : callM F_ring_row (consA (datA (binM .Mult (datA (constM (.int (2)))) (slotA 3))) nilA) (st a0 a1 a2 14 m a5 a6 a7 a8 a9 a10 a11) = .ok (.d (rowD [1, 0, -1, 0, 1, 0, -1, 0, 1, 0, -1, 0, 1])) (st a0 a1 a2 14 m a5 a6 a7 a8 a9 a10 a11) := ev_call1 (a := .int 28) (ev_dat (w := .d (.int 28)) (by kernel_rfl)) rrow_28
  ev_par (io := []) (i := 5) (j := 6) e1 e2 rfl
theorem num_14 : ∃ r5 r6 r7, (∀ a0 a1 a2 a5 a6 a7 a8 a9 a10 a11, seqs [b1, b2, b3, b4, b5] nextM (st a0 a1 a2 14 m a5 a6 a7 a8 a9 a10 a11) = .ok .nx (st a0 a1 a2 14 m r5 r6 r7 a8 a9 a10 a11)) ∧ (∀ a0 a1 a2 a6 a7 a8 a9 a10 a11, seqs [b10, b11] nextM (st a0 a1 a2 14 m r5 a6 a7 a8 a9 a10 a11) = .ok .nx (st a0 a1 a2 14 m r5 a6 a7 a8 a9 a10 a11)) := by
  refine ⟨(some (.d (rowD [1, -1, 1, -1, 1, -1, 1]))), (some (.d (rowD [1, 0, -1, 0, 1, 0, -1, 0, 1, 0, -1, 0, 1]))), some (.d (.bl false)), fun a0 a1 a2 a5 a6 a7 a8 a9 a10 a11 => ?_, fun a0 a1 a2 a6 a7 a8 a9 a10 a11 => ?_⟩
  · show seqM b1 (seqs [b2, b3, b4, b5] nextM) _ = _
    rw [seq_nx (s1_14 a0 a1 a2 a5 a6 a7 a8 a9 a10 a11 m)]
    apply numA_14
  · apply numC_14
theorem s1_15 : b1 (st a0 a1 a2 15 m a5 a6 a7 a8 a9 a10 a11) = .ok .nx (st a0 a1 a2 15 m (some (.d (rowD [1, -1, 0, 1, -1, 1, 0, -1, 1]))) (some (.d (rowD [1, 1, 0, -1, -1, -1, 0, 1, 1]))) a7 a8 a9 a10 a11) :=
  have e1 : callM F_ring_row (consA (datA (slotM 3)) nilA) (st a0 a1 a2 15 m a5 a6 a7 a8 a9 a10 a11) = .ok (.d (rowD [1, -1, 0, 1, -1, 1, 0, -1, 1])) (st a0 a1 a2 15 m a5 a6 a7 a8 a9 a10 a11) := ev_call1 (a := .int 15) rfl rrow_15
  have e2 : callM F_ring_row (consA (datA (binM .Mult (datA (constM (.int (2)))) (slotA 3))) nilA) (st a0 a1 a2 15 m a5 a6 a7 a8 a9 a10 a11) = .ok (.d (rowD [1, 1, 0, -1, -1, -1, 0, 1, 1])) (st a0 a1 a2 15 m a5 a6 a7 a8 a9 a10 a11) := ev_call1 (a := .int 30) (ev_dat (w := .d (.int 30)) (by kernel_rfl)) rrow_30
  ev_par (io := []) (i := 5) (j := 6) e1 e2 rfl
theorem num_15 : ∃ r5 r6 r7, (∀ a0 a1 a2 a5 a6 a7 a8 a9 a10 a11, seqs [b1, b2, b3, b4, b5] nextM (st a0 a1 a2 15 m a5 a6 a7 a8 a9 a10 a11) = .ok .nx (st a0 a1 a2 15 m r5 r6 r7 a8 a9 a10 a11)) ∧ (∀ a0 a1 a2 a6 a7 a8 a9 a10 a11, seqs [b10, b11] nextM (st a0 a1 a2 15 m r5 a6 a7 a8 a9 a10 a11) = .ok .nx (st a0 a1 a2 15 m r5 a6 a7 a8 a9 a10 a11)) := by
  refine ⟨(some (.d (rowD [1, -1, 0, 1, -1, 1, 0, -1, 1]))), (some (.d (rowD [1, 1, 0, -1, -1, -1, 0, 1, 1]))), some (.d (.bl true)), fun a0 a1 a2 a5 a6 a7 a8 a9 a10 a11 => ?_, fun a0 a1 a2 a6 a7 a8 a9 a10 a11 => ?_⟩
  · show seqM b1 (seqs [b2, b3, b4, b5] nextM) _ = _
    rw [seq_nx (s1_15 a0 a1 a2 a5 a6 a7 a8 a9 a10 a11 m)]
    apply numA_15
  · apply numC_15
theorem s1_16 : b1 (st a0 a1 a2 16 m a5 a6 a7 a8 a9 a10 a11) = .ok .nx (st a0 a1 a2 16 m (some (.d (rowD [1, 0, 0, 0, 0, 0, 0, 0, 1]))) (some (.d (rowD [1, 0, 0, 0, 0, 0, 0, 0, 0, 0, 0, 0, 0, 0, 0, 0, 1]))) a7 a8 a9 a10 a11) :=
  have e1 : callM F_ring_row (consA (datA (slotM 3)) nilA) (st a0 a1 a2 16 m a5 a6 a7 a8 a9 a10 a11) = .ok (.d (rowD [1, 0, 0, 0, 0, 0, 0, 0, 1])) (st a0 a1 a2 16 m a5 a6 a7 a8 a9 a10 a11) := ev_call1 (a := .int 16) rfl rrow_16
  have e2 : callM F_ring_row (consA (datA (binM .Mult (datA (constM (.int (2)))) (slotA 3))) nilA) (st a0 a1 a2 16 m a5 a6 a7 a8 a9 a10 a11) = .ok (.d (rowD [1, 0, 0, 0, 0, 0, 0, 0, 0, 0, 0, 0, 0, 0, 0, 0, 1])) (st a0 a1 a2 16 m a5 a6 a7 a8 a9 a10 a11) := ev_call1 (a := .int 32) (ev_dat (w := .d (.int 32)) (by kernel_rfl)) rrow_32
  ev_par (io := []) (i := 5) (j := 6) e1 e2 rfl
theorem num_16 : ∃ r5 r6 r7, (∀ a0 a1 a2 a5 a6 a7 a8 a9 a10 a11, seqs [b1, b2, b3, b4, b5] nextM (st a0 a1 a2 16 m a5 a6 a7 a8 a9 a10 a11) = .ok .nx (st a0 a1 a2 16 m r5 r6 r7 a8 a9 a10 a11)) ∧ (∀ a0 a1 a2 a6 a7 a8 a9 a10 a11, seqs [b10, b11] nextM (st a0 a1 a2 16 m r5 a6 a7 a8 a9 a10 a11) = .ok .nx (st a0 a1 a2 16 m r5 a6 a7 a8 a9 a10 a11)) := by
  refine ⟨(some (.d (rowD [1, 0, 0, 0, 0, 0, 0, 0, 1]))), (some (.d (rowD [1, 0, 0, 0, 0, 0, 0, 0, 0, 0, 0, 0, 0, 0, 0, 0, 1]))), some (.d (.bl false)), fun a0 a1 a2 a5 a6 a7 a8 a9 a10 a11 => ?_, fun a0 a1 a2 a6 a7 a8 a9 a10 a11 => ?_⟩
  · show seqM b1 (seqs [b2, b3, b4, b5] nextM) _ = _
    rw [seq_nx (s1_16 a0 a1 a2 a5 a6 a7 a8 a9 a10 a11 m)]
    apply numA_16
  · apply numC_16
theorem s1_17 : b1 (st a0 a1 a2 17 m a5 a6 a7 a8 a9 a10 a11) = .ok .nx (st a0 a1 a2 17 m (some (.d (rowD [1, 1, 1, 1, 1, 1, 1, 1, 1, 1, 1, 1, 1, 1, 1, 1, 1]))) (some (.d (rowD [1, -1, 1, -1, 1, -1, 1, -1, 1, -1, 1, -1, 1, -1, 1, -1, 1]))) a7 a8 a9 a10 a11) :=
  have e1 : callM F_ring_row (consA (datA (slotM 3)) nilA) (st a0 a1 a2 17 m a5 a6 a7 a8 a9 a10 a11) = .ok (.d (rowD [1, 1, 1, 1, 1, 1, 1, 1, 1, 1, 1, 1, 1, 1, 1, 1, 1])) (st a0 a1 a2 17 m a5 a6 a7 a8 a9 a10 a11) := ev_call1 (a := .int 17) rfl rrow_17
  have e2 : callM F_ring_row (consA (datA (binM .Mult (datA (constM (.int (2)))) (slotA 3))) nilA) (st a0 a1 a2 17 m a5 a6 a7 a8 a9 a10 a11) = .ok (.d (rowD [1, -1, 1, -1, 1, -1, 1, -1, 1, -1, 1, -1, 1, -1, 1, -1, 1])) (st a0 a1 a2 17 m a5 a6 a7 a8 a9 a10 a11) := ev_call1 (a := .int 34) (ev_dat (w := .d (.int 34)) (by kernel_rfl)) rrow_34
  ev_par (io := []) (i := 5) (j := 6) e1 e2 rfl
theorem num_17 : ∃ r5 r6 r7, (∀ a0 a1 a2 a5 a6 a7 a8 a9 a10 a11, seqs [b1, b2, b3, b4, b5] nextM (st a0 a1 a2 17 m a5 a6 a7 a8 a9 a10 a11) = .ok .nx (st a0 a1 a2 17 m r5 r6 r7 a8 a9 a10 a11)) ∧ (∀ a0 a1 a2 a6 a7 a8 a9 a10 a11, seqs [b10, b11] nextM (st a0 a1 a2 17 m r5 a6 a7 a8 a9 a10 a11) = .ok .nx (st a0 a1 a2 17 m r5 a6 a7 a8 a9 a10 a11)) := by
  refine ⟨(some (.d (rowD [1, 1, 1, 1, 1, 1, 1, 1, 1, 1, 1, 1, 1, 1, 1, 1, 1]))), (some (.d (rowD [1, -1, 1, -1, 1, -1, 1, -1, 1, -1, 1, -1, 1, -1, 1, -1, 1]))), some (.d (.bl true)), fun a0 a1 a2 a5 a6 a7 a8 a9 a10 a11 => ?_, fun a0 a1 a2 a6 a7 a8 a9 a10 a11 => ?_⟩
  · show seqM b1 (seqs [b2, b3, b4, b5] nextM) _ = _
    rw [seq_nx (s1_17 a0 a1 a2 a5 a6 a7 a8 a9 a10 a11 m)]
    apply numA_17
  · apply numC_17
theorem s1_18 : b1 (st a0 a1 a2 18 m a5 a6 a7 a8 a9 a10 a11) = .ok .nx (st a0 a1 a2 18 m (some (.d (rowD [1, 0, 0, -1, 0, 0, 1]))) (some (.d (rowD [1, 0, 0, 0, 0, 0, -1, 0, 0, 0, 0, 0, 1]))) a7 a8 a9 a10 a11) :=
  have e1 : callM F_ring_row (consA (datA (slotM 3)) nilA) (st a0 a1 a2 18 m a5 a6 a7 a8 a9 a10 a11) = .ok (.d (rowD [1, 0, 0, -1, 0, 0, 1])) (st a0 a1 a2 18 m a5 a6 a7 a8 a9 a10 a11) := ev_call1 (a := .int 18) rfl rrow_18
  have e2 : callM F_ring_row (consA (datA (binM .Mult (datA (constM (.int (2)))) (slotA 3))) nilA) (st a0 a1 a2 18 m a5 a6 a7 a8 a9 a10 a11) = .ok (.d (rowD [1, 0, 0, 0, 0, 0, -1, 0, 0, 0, 0, 0, 1])) (st a0 a1 a2 18 m a5 a6 a7 a8 a9 a10 a11) := ev_call1 (a := .int 36) (ev_dat (w := .d (.int 36)) (by kernel_rfl)) rrow_36
  ev_par (io := []) (i := 5) (j := 6) e1 e2 rfl
theorem num_18 : ∃ r5 r6 r7, (∀ a0 a1 a2 a5 a6 a7 a8 a9 a10 a11, seqs [b1, b2, b3, b4, b5] nextM (st a0 a1 a2 18 m a5 a6 a7 a8 a9 a10 a11) = .ok .nx (st a0 a1 a2 18 m r5 r6 r7 a8 a9 a10 a11)) ∧ (∀ a0 a1 a2 a6 a7 a8 a9 a10 a11, seqs [b10, b11] nextM (st a0 a1 a2 18 m r5 a6 a7 a8 a9 a10 a11) = .ok .nx (st a0 a1 a2 18 m r5 a6 a7 a8 a9 a10 a11)) := by
  refine ⟨(some (.d (rowD [1, 0, 0, -1, 0, 0, 1]))), (some (.d (rowD [1, 0, 0, 0, 0, 0, -1, 0, 0, 0, 0, 0, 1]))), some (.d (.bl false)), fun a0 a1 a2 a5 a6 a7 a8 a9 a10 a11 => ?_, fun a0 a1 a2 a6 a7 a8 a9 a10 a11 => ?_⟩
  · show seqM b1 (seqs [b2, b3, b4, b5] nextM) _ = _
    rw [seq_nx (s1_18 a0 a1 a2 a5 a6 a7 a8 a9 a10 a11 m)]
    apply numA_18
  · apply numC_18
theorem s1_19 : b1 (st a0 a1 a2 19 m a5 a6 a7 a8 a9 a10 a11) = .ok .nx (st a0 a1 a2 19 m (some (.d (rowD [1, 1, 1, 1, 1, 1, 1, 1, 1, 1, 1, 1, 1, 1, 1, 1, 1, 1, 1]))) (some (.d (rowD [1, -1, 1, -1, 1, -1, 1, -1, 1, -1, 1, -1, 1, -1, 1, -1, 1, -1, 1]))) a7 a8 a9 a10 a11) :=
  have e1 : callM F_ring_row (consA (datA (slotM 3)) nilA) (st a0 a1 a2 19 m a5 a6 a7 a8 a9 a10 a11) = .ok (.d (rowD [1, 1, 1, 1, 1, 1, 1, 1, 1, 1, 1, 1, 1, 1, 1, 1, 1, 1, 1])) (st a0 a1 a2 19 m a5 a6 a7 a8 a9 a10 a11) := ev_call1 (a := .int 19) rfl rrow_19
  have e2 : callM F_ring_row (consA (datA (binM .Mult (datA (constM (.int (2)))) (slotA 3))) nilA) (st a0 a1 a2 19 m a5 a6 a7 a8 a9 a10 a11) = .ok (.d (rowD [1, -1, 1, -1, 1, -1, 1, -1, 1, -1, 1, -1, 1, -1, 1, -1, 1, -1, 1])) (st a0 a1 a2 19 m a5 a6 a7 a8 a9 a10 a11) := ev_call1 (a := .int 38) (ev_dat (w := .d (.int 38)) (by kernel_rfl)) rrow_38
  ev_par (io := []) (i := 5) (j := 6) e1 e2 rfl
theorem num_19 : ∃ r5 r6 r7, (∀ a0 a1 a2 a5 a6 a7 a8 a9 a10 a11, seqs [b1, b2, b3, b4, b5] nextM (st a0 a1 a2 19 m a5 a6 a7 a8 a9 a10 a11) = .ok .nx (st a0 a1 a2 19 m r5 r6 r7 a8 a9 a10 a11)) ∧ (∀ a0 a1 a2 a6 a7 a8 a9 a10 a11, seqs [b10, b11] nextM (st a0 a1 a2 19 m r5 a6 a7 a8 a9 a10 a11) = .ok .nx (st a0 a1 a2 19 m r5 a6 a7 a8 a9 a10 a11)) := by
  refine ⟨(some (.d (rowD [1, 1, 1, 1, 1, 1, 1, 1, 1, 1, 1, 1, 1, 1, 1, 1, 1, 1, 1]))), (some (.d (rowD [1, -1, 1, -1, 1, -1, 1, -1, 1, -1, 1, -1, 1, -1, 1, -1, 1, -1, 1]))), some (.d (.bl true)), fun a0 a1 a2 a5 a6 a7 a8 a9 a10 a11 => ?_, fun a0 a1 a2 a6 a7 a8 a9 a10 a11 => ?_⟩
  · show seqM b1 (seqs [b2, b3, b4, b5] nextM) _ = _
    rw [seq_nx (s1_19 a0 a1 a2 a5 a6 a7 a8 a9 a10 a11 m)]
    apply numA_19
  · apply numC_19
theorem s1_20 : b1 (st a0 a1 a2 20 m a5 a6 a7 a8 a9 a10 a11) = .ok .nx (st a0 a1 a2 20 m (some (.d (rowD [1, 0, -1, 0, 1, 0, -1, 0, 1]))) (some (.d (rowD [1, 0, 0, 0, -1, 0, 0, 0, 1, 0, 0, 0, -1, 0, 0, 0, 1]))) a7 a8 a9 a10 a11) :=
  have e1 : callM F_ring_row (consA (datA (slotM 3)) nilA) (st a0 a1 a2 20 m a5 a6 a7 a8 a9 a10 a11) = .ok (.d (rowD [1, 0, -1, 0, 1, 0, -1, 0, 1])) (st a0 a1 a2 20 m a5 a6 a7 a8 a9 a10 a11) := ev_call1 (a := .int 20) rfl rrow_20
  have e2 : callM F_ring_row (consA (datA (binM .Mult (datA (constM (.int (2)))) (slotA 3))) nilA) (st a0 a1 a2 20 m a5 a6 a7 a8 a9 a10 a11) = .ok (.d (rowD [1, 0, 0, 0, -1, 0, 0, 0, 1, 0, 0, 0, -1, 0, 0, 0, 1])) (st a0 a1 a2 20 m a5 a6 a7 a8 a9 a10 a11) := ev_call1 (a := .int 40) (ev_dat (w := .d (.int 40)) (by kernel_rfl)) rrow_40
  ev_par (io := []) (i := 5) (j := 6) e1 e2 rfl
theorem num_20 : ∃ r5 r6 r7, (∀ a0 a1 a2 a5 a6 a7 a8 a9 a10 a11, seqs [b1, b2, b3, b4, b5] nextM (st a0 a1 a2 20 m a5 a6 a7 a8 a9 a10 a11) = .ok .nx (st a0 a1 a2 20 m r5 r6 r7 a8 a9 a10 a11)) ∧ (∀ a0 a1 a2 a6 a7 a8 a9 a10 a11, seqs [b10, b11] nextM (st a0 a1 a2 20 m r5 a6 a7 a8 a9 a10 a11) = .ok .nx (st a0 a1 a2 20 m r5 a6 a7 a8 a9 a10 a11)) := by
  refine ⟨(some (.d (rowD [1, 0, -1, 0, 1, 0, -1, 0, 1]))), (some (.d (rowD [1, 0, 0, 0, -1, 0, 0, 0, 1, 0, 0, 0, -1, 0, 0, 0, 1]))), some (.d (.bl false)), fun a0 a1 a2 a5 a6 a7 a8 a9 a10 a11 => ?_, fun a0 a1 a2 a6 a7 a8 a9 a10 a11 => ?_⟩
  · show seqM b1 (seqs [b2, b3, b4, b5] nextM) _ = _
    rw [seq_nx (s1_20 a0 a1 a2 a5 a6 a7 a8 a9 a10 a11 m)]
    apply numA_20
  · apply numC_20
theorem s1_21 : b1 (st a0 a1 a2 21 m a5 a6 a7 a8 a9 a10 a11) = .ok .nx (st a0 a1 a2 21 m (some (.d (rowD [1, -1, 0, 1, -1, 0, 1, 0, -1, 1, 0, -1, 1]))) (some (.d (rowD [1, 1, 0, -1, -1, 0, 1, 0, -1, -1, 0, 1, 1]))) a7 a8 a9 a10 a11) :=
  have e1 : callM F_ring_row (consA (datA (slotM 3)) nilA) (st a0 a1 a2 21 m a5 a6 a7 a8 a9 a10 a11) = .ok (.d (rowD [1, -1, 0, 1, -1, 0, 1, 0, -1, 1, 0, -1, 1])) (st a0 a1 a2 21 m a5 a6 a7 a8 a9 a10 a11) := ev_call1 (a := .int 21) rfl rrow_21
  have e2 : callM F_ring_row (consA (datA (binM .Mult (datA (constM (.int (2)))) (slotA 3))) nilA) (st a0 a1 a2 21 m a5 a6 a7 a8 a9 a10 a11) = .ok (.d (rowD [1, 1, 0, -1, -1, 0, 1, 0, -1, -1, 0, 1, 1])) (st a0 a1 a2 21 m a5 a6 a7 a8 a9 a10 a11) := ev_call1 (a := .int 42) (ev_dat (w := .d (.int 42)) (by kernel_rfl)) rrow_42
  ev_par (io := []) (i := 5) (j := 6) e1 e2 rfl
theorem num_21 : ∃ r5 r6 r7, (∀ a0 a1 a2 a5 a6 a7 a8 a9 a10 a11, seqs [b1, b2, b3, b4, b5] nextM (st a0 a1 a2 21 m a5 a6 a7 a8 a9 a10 a11) = .ok .nx (st a0 a1 a2 21 m r5 r6 r7 a8 a9 a10 a11)) ∧ (∀ a0 a1 a2 a6 a7 a8 a9 a10 a11, seqs [b10, b11] nextM (st a0 a1 a2 21 m r5 a6 a7 a8 a9 a10 a11) = .ok .nx (st a0 a1 a2 21 m r5 a6 a7 a8 a9 a10 a11)) := by
  refine ⟨(some (.d (rowD [1, -1, 0, 1, -1, 0, 1, 0, -1, 1, 0, -1, 1]))), (some (.d (rowD [1, 1, 0, -1, -1, 0, 1, 0, -1, -1, 0, 1, 1]))), some (.d (.bl true)), fun a0 a1 a2 a5 a6 a7 a8 a9 a10 a11 => ?_, fun a0 a1 a2 a6 a7 a8 a9 a10 a11 => ?_⟩
  · show seqM b1 (seqs [b2, b3, b4, b5] nextM) _ = _
    rw [seq_nx (s1_21 a0 a1 a2 a5 a6 a7 a8 a9 a10 a11 m)]
    apply numA_21
  · apply numC_21
theorem s1_22 : b1 (st a0 a1 a2 22 m a5 a6 a7 a8 a9 a10 a11) = .ok .nx (st a0 a1 a2 22 m (some (.d (rowD [1, -1, 1, -1, 1, -1, 1, -1, 1, -1, 1]))) (some (.d (rowD [1, 0, -1, 0, 1, 0, -1, 0, 1, 0, -1, 0, 1, 0, -1, 0, 1, 0, -1, 0, 1]))) a7 a8 a9 a10 a11) :=
  have e1 : callM F_ring_row (consA (datA (slotM 3)) nilA) (st a0 a1 a2 22 m a5 a6 a7 a8 a9 a10 a11) = .ok (.d (rowD [1, -1, 1, -1, 1, -1, 1, -1, 1, -1, 1])) (st a0 a1 a2 22 m a5 a6 a7 a8 a9 a10 a11) := ev_call1 (a := .int 22) rfl rrow_22
  have e2 : callM F_ring_row (consA (datA (binM .Mult (datA (constM (.int (2)))) (slotA 3))) nilA) (st a0 a1 a2 22 m a5 a6 a7 a8 a9 a10 a11) = .ok (.d (rowD [1, 0, -1, 0, 1, 0, -1, 0, 1, 0, -1, 0, 1, 0, -1, 0, 1, 0, -1, 0, 1])) (st a0 a1 a2 22 m a5 a6 a7 a8 a9 a10 a11) := ev_call1 (a := .int 44) (ev_dat (w := .d (.int 44)) (by kernel_rfl)) rrow_44
  ev_par (io := []) (i := 5) (j := 6) e1 e2 rfl
theorem num_22 : ∃ r5 r6 r7, (∀ a0 a1 a2 a5 a6 a7 a8 a9 a10 a11, seqs [b1, b2, b3, b4, b5] nextM (st a0 a1 a2 22 m a5 a6 a7 a8 a9 a10 a11) = .ok .nx (st a0 a1 a2 22 m r5 r6 r7 a8 a9 a10 a11)) ∧ (∀ a0 a1 a2 a6 a7 a8 a9 a10 a11, seqs [b10, b11] nextM (st a0 a1 a2 22 m r5 a6 a7 a8 a9 a10 a11) = .ok .nx (st a0 a1 a2 22 m r5 a6 a7 a8 a9 a10 a11)) := by
  refine ⟨(some (.d (rowD [1, -1, 1, -1, 1, -1, 1, -1, 1, -1, 1]))), (some (.d (rowD [1, 0, -1, 0, 1, 0, -1, 0, 1, 0, -1, 0, 1, 0, -1, 0, 1, 0, -1, 0, 1]))), some (.d (.bl false)), fun a0 a1 a2 a5 a6 a7 a8 a9 a10 a11 => ?_, fun a0 a1 a2 a6 a7 a8 a9 a10 a11 => ?_⟩
  · show seqM b1 (seqs [b2, b3, b4, b5] nextM) _ = _
    rw [seq_nx (s1_22 a0 a1 a2 a5 a6 a7 a8 a9 a10 a11 m)]
    apply numA_22
  · apply numC_22
theorem s1_23 : b1 (st a0 a1 a2 23 m a5 a6 a7 a8 a9 a10 a11) = .ok .nx (st a0 a1 a2 23 m (some (.d (rowD [1, 1, 1, 1, 1, 1, 1, 1, 1, 1, 1, 1, 1, 1, 1, 1, 1, 1, 1, 1, 1, 1, 1]))) (some (.d (rowD [1, -1, 1, -1, 1, -1, 1, -1, 1, -1, 1, -1, 1, -1, 1, -1, 1, -1, 1, -1, 1, -1, 1]))) a7 a8 a9 a10 a11) :=
  have e1 : callM F_ring_row (consA (datA (slotM 3)) nilA) (st a0 a1 a2 23 m a5 a6 a7 a8 a9 a10 a11) = .ok (.d (rowD [1, 1, 1, 1, 1, 1, 1, 1, 1, 1, 1, 1, 1, 1, 1, 1, 1, 1, 1, 1, 1, 1, 1])) (st a0 a1 a2 23 m a5 a6 a7 a8 a9 a10 a11) := ev_call1 (a := .int 23) rfl rrow_23
  have e2 : callM F_ring_row (consA (datA (binM .Mult (datA (constM (.int (2)))) (slotA 3))) nilA) (st a0 a1 a2 23 m a5 a6 a7 a8 a9 a10 a11) = .ok (.d (rowD [1, -1, 1, -1, 1, -1, 1, -1, 1, -1, 1, -1, 1, -1, 1, -1, 1, -1, 1, -1, 1, -1, 1])) (st a0 a1 a2 23 m a5 a6 a7 a8 a9 a10 a11) := ev_call1 (a := .int 46) (ev_dat (w := .d (.int 46)) (by kernel_rfl)) rrow_46
  ev_par (io := []) (i := 5) (j := 6) e1 e2 rfl
theorem num_23 : ∃ r5 r6 r7, (∀ a0 a1 a2 a5 a6 a7 a8 a9 a10 a11, seqs [b1, b2, b3, b4, b5] nextM (st a0 a1 a2 23 m a5 a6 a7 a8 a9 a10 a11) = .ok .nx (st a0 a1 a2 23 m r5 r6 r7 a8 a9 a10 a11)) ∧ (∀ a0 a1 a2 a6 a7 a8 a9 a10 a11, seqs [b10, b11] nextM (st a0 a1 a2 23 m r5 a6 a7 a8 a9 a10 a11) = .ok .nx (st a0 a1 a2 23 m r5 a6 a7 a8 a9 a10 a11)) := by
  refine ⟨(some (.d (rowD [1, 1, 1, 1, 1, 1, 1, 1, 1, 1, 1, 1, 1, 1, 1, 1, 1, 1, 1, 1, 1, 1, 1]))), (some (.d (rowD [1, -1, 1, -1, 1, -1, 1, -1, 1, -1, 1, -1, 1, -1, 1, -1, 1, -1, 1, -1, 1, -1, 1]))), some (.d (.bl true)), fun a0 a1 a2 a5 a6 a7 a8 a9 a10 a11 => ?_, fun a0 a1 a2 a6 a7 a8 a9 a10 a11 => ?_⟩
  · show seqM b1 (seqs [b2, b3, b4, b5] nextM) _ = _
    rw [seq_nx (s1_23 a0 a1 a2 a5 a6 a7 a8 a9 a10 a11 m)]
    apply numA_23
  · apply numC_23
theorem s1_24 : b1 (st a0 a1 a2 24 m a5 a6 a7 a8 a9 a10 a11) = .ok .nx (st a0 a1 a2 24 m (some (.d (rowD [1, 0, 0, 0, -1, 0, 0, 0, 1]))) (some (.d (rowD [1, 0, 0, 0, 0, 0, 0, 0, -1, 0, 0, 0, 0, 0, 0, 0, 1]))) a7 a8 a9 a10 a11) :=
  have e1 : callM F_ring_row (consA (datA (slotM 3)) nilA) (st a0 a1 a2 24 m a5 a6 a7 a8 a9 a10 a11) = .ok (.d (rowD [1, 0, 0, 0, -1, 0, 0, 0, 1])) (st a0 a1 a2 24 m a5 a6 a7 a8 a9 a10 a11) := ev_call1 (a := .int 24) rfl rrow_24
  have e2 : callM F_ring_row (consA (datA (binM .Mult (datA (constM (.int (2)))) (slotA 3))) nilA) (st a0 a1 a2 24 m a5 a6 a7 a8 a9 a10 a11) = .ok (.d (rowD [1, 0, 0, 0, 0, 0, 0, 0, -1, 0, 0, 0, 0, 0, 0, 0, 1])) (st a0 a1 a2 24 m a5 a6 a7 a8 a9 a10 a11) := ev_call1 (a := .int 48) (ev_dat (w := .d (.int 48)) (by kernel_rfl)) rrow_48
  ev_par (io := []) (i := 5) (j := 6) e1 e2 rfl
theorem num_24 : ∃ r5 r6 r7, (∀ a0 a1 a2 a5 a6 a7 a8 a9 a10 a11, seqs [b1, b2, b3, b4, b5] nextM (st a0 a1 a2 24 m a5 a6 a7 a8 a9 a10 a11) = .ok .nx (st a0 a1 a2 24 m r5 r6 r7 a8 a9 a10 a11)) ∧ (∀ a0 a1 a2 a6 a7 a8 a9 a10 a11, seqs [b10, b11] nextM (st a0 a1 a2 24 m r5 a6 a7 a8 a9 a10 a11) = .ok .nx (st a0 a1 a2 24 m r5 a6 a7 a8 a9 a10 a11)) := by
  refine ⟨(some (.d (rowD [1, 0, 0, 0, -1, 0, 0, 0, 1]))), (some (.d (rowD [1, 0, 0, 0, 0, 0, 0, 0, -1, 0, 0, 0, 0, 0, 0, 0, 1]))), some (.d (.bl false)), fun a0 a1 a2 a5 a6 a7 a8 a9 a10 a11 => ?_, fun a0 a1 a2 a6 a7 a8 a9 a10 a11 => ?_⟩
  · show seqM b1 (seqs [b2, b3, b4, b5] nextM) _ = _
    rw [seq_nx (s1_24 a0 a1 a2 a5 a6 a7 a8 a9 a10 a11 m)]
    apply numA_24
  · apply numC_24
theorem s1_25 : b1 (st a0 a1 a2 25 m a5 a6 a7 a8 a9 a10 a11) = .ok .nx (st a0 a1 a2 25 m (some (.d (rowD [1, 0, 0, 0, 0, 1, 0, 0, 0, 0, 1, 0, 0, 0, 0, 1, 0, 0, 0, 0, 1]))) (some (.d (rowD [1, 0, 0, 0, 0, -1, 0, 0, 0, 0, 1, 0, 0, 0, 0, -1, 0, 0, 0, 0, 1]))) a7 a8 a9 a10 a11) :=
  have e1 : callM F_ring_row (consA (datA (slotM 3)) nilA) (st a0 a1 a2 25 m a5 a6 a7 a8 a9 a10 a11) = .ok (.d (rowD [1, 0, 0, 0, 0, 1, 0, 0, 0, 0, 1, 0, 0, 0, 0, 1, 0, 0, 0, 0, 1])) (st a0 a1 a2 25 m a5 a6 a7 a8 a9 a10 a11) := ev_call1 (a := .int 25) rfl rrow_25
  have e2 : callM F_ring_row (consA (datA (binM .Mult (datA (constM (.int (2)))) (slotA 3))) nilA) (st a0 a1 a2 25 m a5 a6 a7 a8 a9 a10 a11) = .ok (.d (rowD [1, 0, 0, 0, 0, -1, 0, 0, 0, 0, 1, 0, 0, 0, 0, -1, 0, 0, 0, 0, 1])) (st a0 a1 a2 25 m a5 a6 a7 a8 a9 a10 a11) := ev_call1 (a := .int 50) (ev_dat (w := .d (.int 50)) (by kernel_rfl)) rrow_50
  ev_par (io := []) (i := 5) (j := 6) e1 e2 rfl
theorem num_25 : ∃ r5 r6 r7, (∀ a0 a1 a2 a5 a6 a7 a8 a9 a10 a11, seqs [b1, b2, b3, b4, b5] nextM (st a0 a1 a2 25 m a5 a6 a7 a8 a9 a10 a11) = .ok .nx (st a0 a1 a2 25 m r5 r6 r7 a8 a9 a10 a11)) ∧ (∀ a0 a1 a2 a6 a7 a8 a9 a10 a11, seqs [b10, b11] nextM (st a0 a1 a2 25 m r5 a6 a7 a8 a9 a10 a11) = .ok .nx (st a0 a1 a2 25 m r5 a6 a7 a8 a9 a10 a11)) := by
  refine ⟨(some (.d (rowD [1, 0, 0, 0, 0, 1, 0, 0, 0, 0, 1, 0, 0, 0, 0, 1, 0, 0, 0, 0, 1]))), (some (.d (rowD [1, 0, 0, 0, 0, -1, 0, 0, 0, 0, 1, 0, 0, 0, 0, -1, 0, 0, 0, 0, 1]))), some (.d (.bl true)), fun a0 a1 a2 a5 a6 a7 a8 a9 a10 a11 => ?_, fun a0 a1 a2 a6 a7 a8 a9 a10 a11 => ?_⟩
  · show seqM b1 (seqs [b2, b3, b4, b5] nextM) _ = _
    rw [seq_nx (s1_25 a0 a1 a2 a5 a6 a7 a8 a9 a10 a11 m)]
    apply numA_25
  · apply numC_25
theorem s1_26 : b1 (st a0 a1 a2 26 m a5 a6 a7 a8 a9 a10 a11) = .ok .nx (st a0 a1 a2 26 m (some (.d (rowD [1, -1, 1, -1, 1, -1, 1, -1, 1, -1, 1, -1, 1]))) (some (.d (rowD [1, 0, -1, 0, 1, 0, -1, 0, 1, 0, -1, 0, 1, 0, -1, 0, 1, 0, -1, 0, 1, 0, -1, 0, 1]))) a7 a8 a9 a10 a11) :=
  have e1 : callM F_ring_row (consA (datA (slotM 3)) nilA) (st a0 a1 a2 26 m a5 a6 a7 a8 a9 a10 a11) = .ok (.d (rowD [1, -1, 1, -1, 1, -1, 1, -1, 1, -1, 1, -1, 1])) (st a0 a1 a2 26 m a5 a6 a7 a8 a9 a10 a11) := ev_call1 (a := .int 26) rfl rrow_26
  have e2 : callM F_ring_row (consA (datA (binM .Mult (datA (constM (.int (2)))) (slotA 3))) nilA) (st a0 a1 a2 26 m a5 a6 a7 a8 a9 a10 a11) = .ok (.d (rowD [1, 0, -1, 0, 1, 0, -1, 0, 1, 0, -1, 0, 1, 0, -1, 0, 1, 0, -1, 0, 1, 0, -1, 0, 1])) (st a0 a1 a2 26 m a5 a6 a7 a8 a9 a10 a11) := ev_call1 (a := .int 52) (ev_dat (w := .d (.int 52)) (by kernel_rfl)) rrow_52
  ev_par (io := []) (i := 5) (j := 6) e1 e2 rfl
theorem num_26 : ∃ r5 r6 r7, (∀ a0 a1 a2 a5 a6 a7 a8 a9 a10 a11, seqs [b1, b2, b3, b4, b5] nextM (st a0 a1 a2 26 m a5 a6 a7 a8 a9 a10 a11) = .ok .nx (st a0 a1 a2 26 m r5 r6 r7 a8 a9 a10 a11)) ∧ (∀ a0 a1 a2 a6 a7 a8 a9 a10 a11, seqs [b10, b11] nextM (st a0 a1 a2 26 m r5 a6 a7 a8 a9 a10 a11) = .ok .nx (st a0 a1 a2 26 m r5 a6 a7 a8 a9 a10 a11)) := by
  refine ⟨(some (.d (rowD [1, -1, 1, -1, 1, -1, 1, -1, 1, -1, 1, -1, 1]))), (some (.d (rowD [1, 0, -1, 0, 1, 0, -1, 0, 1, 0, -1, 0, 1, 0, -1, 0, 1, 0, -1, 0, 1, 0, -1, 0, 1]))), some (.d (.bl false)), fun a0 a1 a2 a5 a6 a7 a8 a9 a10 a11 => ?_, fun a0 a1 a2 a6 a7 a8 a9 a10 a11 => ?_⟩
  · show seqM b1 (seqs [b2, b3, b4, b5] nextM) _ = _
    rw [seq_nx (s1_26 a0 a1 a2 a5 a6 a7 a8 a9 a10 a11 m)]
    apply numA_26
  · apply numC_26
theorem s1_27 : b1 (st a0 a1 a2 27 m a5 a6 a7 a8 a9 a10 a11) = .ok .nx (st a0 a1 a2 27 m (some (.d (rowD [1, 0, 0, 0, 0, 0, 0, 0, 0, 1, 0, 0, 0, 0, 0, 0, 0, 0, 1]))) (some (.d (rowD [1, 0, 0, 0, 0, 0, 0, 0, 0, -1, 0, 0, 0, 0, 0, 0, 0, 0, 1]))) a7 a8 a9 a10 a11) :=
  have e1 : callM F_ring_row (consA (datA (slotM 3)) nilA) (st a0 a1 a2 27 m a5 a6 a7 a8 a9 a10 a11) = .ok (.d (rowD [1, 0, 0, 0, 0, 0, 0, 0, 0, 1, 0, 0, 0, 0, 0, 0, 0, 0, 1])) (st a0 a1 a2 27 m a5 a6 a7 a8 a9 a10 a11) := ev_call1 (a := .int 27) rfl rrow_27
  have e2 : callM F_ring_row (consA (datA (binM .Mult (datA (constM (.int (2)))) (slotA 3))) nilA) (st a0 a1 a2 27 m a5 a6 a7 a8 a9 a10 a11) = .ok (.d (rowD [1, 0, 0, 0, 0, 0, 0, 0, 0, -1, 0, 0, 0, 0, 0, 0, 0, 0, 1])) (st a0 a1 a2 27 m a5 a6 a7 a8 a9 a10 a11) := ev_call1 (a := .int 54) (ev_dat (w := .d (.int 54)) (by kernel_rfl)) rrow_54
  ev_par (io := []) (i := 5) (j := 6) e1 e2 rfl
theorem num_27 : ∃ r5 r6 r7, (∀ a0 a1 a2 a5 a6 a7 a8 a9 a10 a11, seqs [b1, b2, b3, b4, b5] nextM (st a0 a1 a2 27 m a5 a6 a7 a8 a9 a10 a11) = .ok .nx (st a0 a1 a2 27 m r5 r6 r7 a8 a9 a10 a11)) ∧ (∀ a0 a1 a2 a6 a7 a8 a9 a10 a11, seqs [b10, b11] nextM (st a0 a1 a2 27 m r5 a6 a7 a8 a9 a10 a11) = .ok .nx (st a0 a1 a2 27 m r5 a6 a7 a8 a9 a10 a11)) := by
  refine ⟨(some (.d (rowD [1, 0, 0, 0, 0, 0, 0, 0, 0, 1, 0, 0, 0, 0, 0, 0, 0, 0, 1]))), (some (.d (rowD [1, 0, 0, 0, 0, 0, 0, 0, 0, -1, 0, 0, 0, 0, 0, 0, 0, 0, 1]))), some (.d (.bl true)), fun a0 a1 a2 a5 a6 a7 a8 a9 a10 a11 => ?_, fun a0 a1 a2 a6 a7 a8 a9 a10 a11 => ?_⟩
  · show seqM b1 (seqs [b2, b3, b4, b5] nextM) _ = _
    rw [seq_nx (s1_27 a0 a1 a2 a5 a6 a7 a8 a9 a10 a11 m)]
    apply numA_27
  · apply numC_27
theorem s1_28 : b1 (st a0 a1 a2 28 m a5 a6 a7 a8 a9 a10 a11) = .ok .nx (st a0 a1 a2 28 m (some (.d (rowD [1, 0, -1, 0, 1, 0, -1, 0, 1, 0, -1, 0, 1]))) (some (.d (rowD [1, 0, 0, 0, -1, 0, 0, 0, 1, 0, 0, 0, -1, 0, 0, 0, 1, 0, 0, 0, -1, 0, 0, 0, 1]))) a7 a8 a9 a10 a11) :=
  have e1 : callM F_ring_row (consA (datA (slotM 3)) nilA) (st a0 a1 a2 28 m a5 a6 a7 a8 a9 a10 a11) = .ok (.d (rowD [1, 0, -1, 0, 1, 0, -1, 0, 1, 0, -1, 0, 1])) (st a0 a1 a2 28 m a5 a6 a7 a8 a9 a10 a11) := ev_call1 (a := .int 28) rfl rrow_28
  have e2 : callM F_ring_row (consA (datA (binM .Mult (datA (constM (.int (2)))) (slotA 3))) nilA) (st a0 a1 a2 28 m a5 a6 a7 a8 a9 a10 a11) = .ok (.d (rowD [1, 0, 0, 0, -1, 0, 0, 0, 1, 0, 0, 0, -1, 0, 0, 0, 1, 0, 0, 0, -1, 0, 0, 0, 1])) (st a0 a1 a2 28 m a5 a6 a7 a8 a9 a10 a11) := ev_call1 (a := .int 56) (ev_dat (w := .d (.int 56)) (by kernel_rfl)) rrow_56
  ev_par (io := []) (i := 5) (j := 6) e1 e2 rfl
theorem num_28 : ∃ r5 r6 r7, (∀ a0 a1 a2 a5 a6 a7 a8 a9 a10 a11, seqs [b1, b2, b3, b4, b5] nextM (st a0 a1 a2 28 m a5 a6 a7 a8 a9 a10 a11) = .ok .nx (st a0 a1 a2 28 m r5 r6 r7 a8 a9 a10 a11)) ∧ (∀ a0 a1 a2 a6 a7 a8 a9 a10 a11, seqs [b10, b11] nextM (st a0 a1 a2 28 m r5 a6 a7 a8 a9 a10 a11) = .ok .nx (st a0 a1 a2 28 m r5 a6 a7 a8 a9 a10 a11)) := by
  refine ⟨(some (.d (rowD [1, 0, -1, 0, 1, 0, -1, 0, 1, 0, -1, 0, 1]))), (some (.d (rowD [1, 0, 0, 0, -1, 0, 0, 0, 1, 0, 0, 0, -1, 0, 0, 0, 1, 0, 0, 0, -1, 0, 0, 0, 1]))), some (.d (.bl false)), fun a0 a1 a2 a5 a6 a7 a8 a9 a10 a11 => ?_, fun a0 a1 a2 a6 a7 a8 a9 a10 a11 => ?_⟩
  · show seqM b1 (seqs [b2, b3, b4, b5] nextM) _ = _
    rw [seq_nx (s1_28 a0 a1 a2 a5 a6 a7 a8 a9 a10 a11 m)]
    apply numA_28
  · apply numC_28
theorem s1_29 : b1 (st a0 a1 a2 29 m a5 a6 a7 a8 a9 a10 a11) = .ok .nx (st a0 a1 a2 29 m (some (.d (rowD [1, 1, 1, 1, 1, 1, 1, 1, 1, 1, 1, 1, 1, 1, 1, 1, 1, 1, 1, 1, 1, 1, 1, 1, 1, 1, 1, 1, 1]))) (some (.d (rowD [1, -1, 1, -1, 1, -1, 1, -1, 1, -1, 1, -1, 1, -1, 1, -1, 1, -1, 1, -1, 1, -1, 1, -1, 1, -1, 1, -1, 1]))) a7 a8 a9 a10 a11) :=
  have e1 : callM F_ring_row (consA (datA (slotM 3)) nilA) (st a0 a1 a2 29 m a5 a6 a7 a8 a9 a10 a11) = .ok (.d (rowD [1, 1, 1, 1, 1, 1, 1, 1, 1, 1, 1, 1, 1, 1, 1, 1, 1, 1, 1, 1, 1, 1, 1, 1, 1, 1, 1, 1, 1])) (st a0 a1 a2 29 m a5 a6 a7 a8 a9 a10 a11) := ev_call1 (a := .int 29) rfl rrow_29
  have e2 : callM F_ring_row (consA (datA (binM .Mult (datA (constM (.int (2)))) (slotA 3))) nilA) (st a0 a1 a2 29 m a5 a6 a7 a8 a9 a10 a11) = .ok (.d (rowD [1, -1, 1, -1, 1, -1, 1, -1, 1, -1, 1, -1, 1, -1, 1, -1, 1, -1, 1, -1, 1, -1, 1, -1, 1, -1, 1, -1, 1])) (st a0 a1 a2 29 m a5 a6 a7 a8 a9 a10 a11) := ev_call1 (a := .int 58) (ev_dat (w := .d (.int 58)) (by kernel_rfl)) rrow_58
  ev_par (io := []) (i := 5) (j := 6) e1 e2 rfl
theorem num_29 : ∃ r5 r6 r7, (∀ a0 a1 a2 a5 a6 a7 a8 a9 a10 a11, seqs [b1, b2, b3, b4, b5] nextM (st a0 a1 a2 29 m a5 a6 a7 a8 a9 a10 a11) = .ok .nx (st a0 a1 a2 29 m r5 r6 r7 a8 a9 a10 a11)) ∧ (∀ a0 a1 a2 a6 a7 a8 a9 a10 a11, seqs [b10, b11] nextM (st a0 a1 a2 29 m r5 a6 a7 a8 a9 a10 a11) = .ok .nx (st a0 a1 a2 29 m r5 a6 a7 a8 a9 a10 a11)) := by
  refine ⟨(some (.d (rowD [1, 1, 1, 1, 1, 1, 1, 1, 1, 1, 1, 1, 1, 1, 1, 1, 1, 1, 1, 1, 1, 1, 1, 1, 1, 1, 1, 1, 1]))), (some (.d (rowD [1, -1, 1, -1, 1, -1, 1, -1, 1, -1, 1, -1, 1, -1, 1, -1, 1, -1, 1, -1, 1, -1, 1, -1, 1, -1, 1, -1, 1]))), some (.d (.bl true)), fun a0 a1 a2 a5 a6 a7 a8 a9 a10 a11 => ?_, fun a0 a1 a2 a6 a7 a8 a9 a10 a11 => ?_⟩
  · show seqM b1 (seqs [b2, b3, b4, b5] nextM) _ = _
    rw [seq_nx (s1_29 a0 a1 a2 a5 a6 a7 a8 a9 a10 a11 m)]
    apply numA_29
  · apply numC_29
theorem s1_30 : b1 (st a0 a1 a2 30 m a5 a6 a7 a8 a9 a10 a11) = .ok .nx (st a0 a1 a2 30 m (some (.d (rowD [1, 1, 0, -1, -1, -1, 0, 1, 1]))) (some (.d (rowD [1, 0, 1, 0, 0, 0, -1, 0, -1, 0, -1, 0, 0, 0, 1, 0, 1]))) a7 a8 a9 a10 a11) :=
  have e1 : callM F_ring_row (consA (datA (slotM 3)) nilA) (st a0 a1 a2 30 m a5 a6 a7 a8 a9 a10 a11) = .ok (.d (rowD [1, 1, 0, -1, -1, -1, 0, 1, 1])) (st a0 a1 a2 30 m a5 a6 a7 a8 a9 a10 a11) := ev_call1 (a := .int 30) rfl rrow_30
  have e2 : callM F_ring_row (consA (datA (binM .Mult (datA (constM (.int (2)))) (slotA 3))) nilA) (st a0 a1 a2 30 m a5 a6 a7 a8 a9 a10 a11) = .ok (.d (rowD [1, 0, 1, 0, 0, 0, -1, 0, -1, 0, -1, 0, 0, 0, 1, 0, 1])) (st a0 a1 a2 30 m a5 a6 a7 a8 a9 a10 a11) := ev_call1 (a := .int 60) (ev_dat (w := .d (.int 60)) (by kernel_rfl)) rrow_60
  ev_par (io := []) (i := 5) (j := 6) e1 e2 rfl
theorem num_30 : ∃ r5 r6 r7, (∀ a0 a1 a2 a5 a6 a7 a8 a9 a10 a11, seqs [b1, b2, b3, b4, b5] nextM (st a0 a1 a2 30 m a5 a6 a7 a8 a9 a10 a11) = .ok .nx (st a0 a1 a2 30 m r5 r6 r7 a8 a9 a10 a11)) ∧ (∀ a0 a1 a2 a6 a7 a8 a9 a10 a11, seqs [b10, b11] nextM (st a0 a1 a2 30 m r5 a6 a7 a8 a9 a10 a11) = .ok .nx (st a0 a1 a2 30 m r5 a6 a7 a8 a9 a10 a11)) := by
  refine ⟨(some (.d (rowD [1, 1, 0, -1, -1, -1, 0, 1, 1]))), (some (.d (rowD [1, 0, 1, 0, 0, 0, -1, 0, -1, 0, -1, 0, 0, 0, 1, 0, 1]))), some (.d (.bl false)), fun a0 a1 a2 a5 a6 a7 a8 a9 a10 a11 => ?_, fun a0 a1 a2 a6 a7 a8 a9 a10 a11 => ?_⟩
  · show seqM b1 (seqs [b2, b3, b4, b5] nextM) _ = _
    rw [seq_nx (s1_30 a0 a1 a2 a5 a6 a7 a8 a9 a10 a11 m)]
    apply numA_30
  · apply numC_30
end
theorem num_ok (m : Int) {n : Nat} (h1 : 1 ≤ n) (h2 : n ≤ 30) : ∃ r5 r6 r7, (∀ a0 a1 a2 a5 a6 a7 a8 a9 a10 a11, seqs [b1, b2, b3, b4, b5] nextM (st a0 a1 a2 n m a5 a6 a7 a8 a9 a10 a11) = .ok .nx (st a0 a1 a2 n m r5 r6 r7 a8 a9 a10 a11)) ∧ (∀ a0 a1 a2 a6 a7 a8 a9 a10 a11, seqs [b10, b11] nextM (st a0 a1 a2 n m r5 a6 a7 a8 a9 a10 a11) = .ok .nx (st a0 a1 a2 n m r5 a6 a7 a8 a9 a10 a11)) := by
  have c : n = 1 ∨ n = 2 ∨ n = 3 ∨ n = 4 ∨ n = 5 ∨ n = 6 ∨ n = 7 ∨ n = 8 ∨ n = 9 ∨ n = 10 ∨ n = 11 ∨ n = 12 ∨ n = 13 ∨ n = 14 ∨ n = 15 ∨ n = 16 ∨ n = 17 ∨ n = 18 ∨ n = 19 ∨ n = 20 ∨ n = 21 ∨ n = 22 ∨ n = 23 ∨ n = 24 ∨ n = 25 ∨ n = 26 ∨ n = 27 ∨ n = 28 ∨ n = 29 ∨ n = 30 := by omega
  rcases c with rfl | rfl | rfl | rfl | rfl | rfl | rfl | rfl | rfl | rfl | rfl | rfl | rfl | rfl | rfl | rfl | rfl | rfl | rfl | rfl | rfl | rfl | rfl | rfl | rfl | rfl | rfl | rfl | rfl | rfl
  · exact num_1 m
  · exact num_2 m
  · exact num_3 m
  · exact num_4 m
  · exact num_5 m
  · exact num_6 m
  · exact num_7 m
  · exact num_8 m
  · exact num_9 m
  · exact num_10 m
  · exact num_11 m
  · exact num_12 m
  · exact num_13 m
  · exact num_14 m
  · exact num_15 m
  · exact num_16 m
  · exact num_17 m
  · exact num_18 m
  · exact num_19 m
  · exact num_20 m
  · exact num_21 m
  · exact num_22 m
  · exact num_23 m
  · exact num_24 m
  · exact num_25 m
  · exact num_26 m
  · exact num_27 m
  · exact num_28 m
  · exact num_29 m
  · exact num_30 m
theorem oth_ok {m : Nat} (h1 : 1 ≤ m) (h2 : m ≤ 16) : ∃ r10, ∀ a0 a1 a2 n a5 a6 a7 a8 a10 a11, seqs [b8, b9] nextM (st a0 a1 a2 n m a5 a6 a7 a8 (some (.d (plZ m))) a10 a11) = .ok .nx (st a0 a1 a2 n m a5 a6 a7 a8 (some (.d (plZ m))) r10 a11) := by
  rw [b9_T]
  have c : m = 1 ∨ m = 2 ∨ m = 3 ∨ m = 4 ∨ m = 5 ∨ m = 6 ∨ m = 7 ∨ m = 8 ∨ m = 9 ∨ m = 10 ∨ m = 11 ∨ m = 12 ∨ m = 13 ∨ m = 14 ∨ m = 15 ∨ m = 16 := by omega
  rcases c with rfl | rfl | rfl | rfl | rfl | rfl | rfl | rfl | rfl | rfl | rfl | rfl | rfl | rfl | rfl | rfl
  · exact ⟨(some (.d (.lst [.int 1]))), fun a0 a1 a2 n a5 a6 a7 a8 a10 a11 => by apply othB_1⟩
  · exact ⟨(some (.d (.lst [.int 1, .int 2]))), fun a0 a1 a2 n a5 a6 a7 a8 a10 a11 => by apply othB_2⟩
  · exact ⟨(some (.d (.lst [.int 1, .int 3]))), fun a0 a1 a2 n a5 a6 a7 a8 a10 a11 => by apply othB_3⟩
  · exact ⟨(some (.d (.lst [.int 1, .int 2, .int 4]))), fun a0 a1 a2 n a5 a6 a7 a8 a10 a11 => by apply othB_4⟩
  · exact ⟨(some (.d (.lst [.int 1, .int 5]))), fun a0 a1 a2 n a5 a6 a7 a8 a10 a11 => by apply othB_5⟩
  · exact ⟨(some (.d (.lst [.int 1, .int 2, .int 3, .int 6]))), fun a0 a1 a2 n a5 a6 a7 a8 a10 a11 => by apply othB_6⟩
  · exact ⟨(some (.d (.lst [.int 1, .int 7]))), fun a0 a1 a2 n a5 a6 a7 a8 a10 a11 => by apply othB_7⟩
  · exact ⟨(some (.d (.lst [.int 1, .int 2, .int 4, .int 8]))), fun a0 a1 a2 n a5 a6 a7 a8 a10 a11 => by apply othB_8⟩
  · exact ⟨(some (.d (.lst [.int 1, .int 3, .int 9]))), fun a0 a1 a2 n a5 a6 a7 a8 a10 a11 => by apply othB_9⟩
  · exact ⟨(some (.d (.lst [.int 1, .int 2, .int 5, .int 10]))), fun a0 a1 a2 n a5 a6 a7 a8 a10 a11 => by apply othB_10⟩
  · exact ⟨(some (.d (.lst [.int 1, .int 11]))), fun a0 a1 a2 n a5 a6 a7 a8 a10 a11 => by apply othB_11⟩
  · exact ⟨(some (.d (.lst [.int 1, .int 2, .int 3, .int 4, .int 6, .int 12]))), fun a0 a1 a2 n a5 a6 a7 a8 a10 a11 => by apply othB_12⟩
  · exact ⟨(some (.d (.lst [.int 1, .int 13]))), fun a0 a1 a2 n a5 a6 a7 a8 a10 a11 => by apply othB_13⟩
  · exact ⟨(some (.d (.lst [.int 1, .int 2, .int 7, .int 14]))), fun a0 a1 a2 n a5 a6 a7 a8 a10 a11 => by apply othB_14⟩
  · exact ⟨(some (.d (.lst [.int 1, .int 3, .int 5, .int 15]))), fun a0 a1 a2 n a5 a6 a7 a8 a10 a11 => by apply othB_15⟩
  · exact ⟨(some (.d (.lst [.int 1, .int 2, .int 4, .int 8, .int 16]))), fun a0 a1 a2 n a5 a6 a7 a8 a10 a11 => by apply othB_16⟩
theorem pen_is : F_law_pen = F_pen := by kernel_rfl
theorem draw_is : F_law_draw = F_draw := by kernel_rfl
theorem lap_ok {B : Nat} {P : FL.D} (hP : PenOk B P) (hB : B + 2 < 2 ^ 40) (a0 a2 a3 a4 a5 a6 a7 a8 a9 a10 a11 : Option W) : ∃ (P' : FL.D) (b3 b4 b5 b6 b7 b8 b9 b10 : Option W), PenOk (B + 1 + 1) P' ∧ lawBody [a0, some (.own P), a2, a3, a4, a5, a6, a7, a8, a9, a10, a11] = .ok .nx [a0, some (.own P'), a2, b3, b4, b5, b6, b7, b8, b9, b10, a11] := by
  obtain ⟨x, P1, x0, x1, hP1, d1⟩ := draw_ok (many := 30) hP (by omega) (by omega) (by omega)
  obtain ⟨y, P2, y0, y1, hP2, d2⟩ := draw_ok (many := 16) hP1 (by omega) (by omega) (by omega)
  obtain ⟨n, hn⟩ : ∃ n : Nat, 1 + x = (n : Int) := ⟨(1 + x).toNat, by omega⟩
  obtain ⟨m, hm⟩ : ∃ m : Nat, 1 + y = (m : Int) := ⟨(1 + y).toNat, by omega⟩
  obtain ⟨r5, r6, r7, n1, n2⟩ := num_ok m (n := n) (by omega) (by omega)
  obtain ⟨r10, o1⟩ := oth_ok (m := m) (by omega) (by omega)
  have e1 : callM F_law_draw (consA (slotA 1) (consA (datA (constM (.int (30)))) nilA)) [a0, some (.own P), a2, a3, a4, a5, a6, a7, a8, a9, a10, a11] = .ok (.d (.int x)) [a0, some (.own P1), a2, a3, a4, a5, a6, a7, a8, a9, a10, a11] :=
    ev_callO (i := 1) (b := .int 30) (P := P) (P' := P1) (ρ := [a0, some (.own P), a2, a3, a4, a5, a6, a7, a8, a9, a10, a11]) rfl rfl rfl (by rw [draw_is]; exact d1)
  have e2 : callM F_law_draw (consA (slotA 1) (consA (datA (constM (.int (16)))) nilA)) [a0, some (.own P1), a2, a3, a4, a5, a6, a7, a8, a9, a10, a11] = .ok (.d (.int y)) [a0, some (.own P2), a2, a3, a4, a5, a6, a7, a8, a9, a10, a11] :=
    ev_callO (i := 1) (b := .int 16) (P := P1) (P' := P2) (ρ := [a0, some (.own P1), a2, a3, a4, a5, a6, a7, a8, a9, a10, a11]) rfl rfl rfl (by rw [draw_is]; exact d2)
  have f1 : binM .Add (datA (constM (.int (1)))) (datA (callM F_law_draw (consA (slotA 1) (consA (datA (constM (.int (30)))) nilA)))) [a0, some (.own P), a2, a3, a4, a5, a6, a7, a8, a9, a10, a11] = .ok (.d (.int n)) [a0, some (.own P1), a2, a3, a4, a5, a6, a7, a8, a9, a10, a11] :=
    ev_bin (a := .int 1) (b := .int x) rfl (ev_dat e1) rfl rfl (by rw [badd, hn])
  have f2 : binM .Add (datA (constM (.int (1)))) (datA (callM F_law_draw (consA (slotA 1) (consA (datA (constM (.int (16)))) nilA)))) [a0, some (.own P1), a2, a3, a4, a5, a6, a7, a8, a9, a10, a11] = .ok (.d (.int m)) [a0, some (.own P2), a2, a3, a4, a5, a6, a7, a8, a9, a10, a11] :=
    ev_bin (a := .int 1) (b := .int y) rfl (ev_dat e2) rfl rfl (by rw [badd, hm])
  have g0 : b0 [a0, some (.own P), a2, a3, a4, a5, a6, a7, a8, a9, a10, a11] = .ok .nx (st a0 (some (.own P2)) a2 n m a5 a6 a7 a8 a9 a10 a11) :=
    ev_asg (ev_tup2 f1 f2) rfl
  refine ⟨P2, some (.d (.int n)), some (.d (.int m)), r5, r6, r7, some (.d (plZ n)), some (.d (plZ m)), r10, hP2, ?_⟩
  show seqM b0 (seqs [b1, b2, b3, b4, b5] (seqs [b6, b7] (seqs [b8, b9] (seqs [b10, b11] nextM)))) _ = _
  rw [seq_nx g0, seqs_go (n1 _ _ _ _ _ _ _ _ _ _)]
  rw [seqs_go (pair_ok a0 (some (.own P2)) a2 r5 r6 r7 a8 a9 a10 a11 (n := n) (m := m) (by omega) (by omega) (by omega) (by omega))]
  rw [seqs_go (o1 _ _ _ _ _ _ _ _ _ _)]
  exact n2 _ _ _ _ _ _ _ _ _
def lastS : M Fl := (seqM (retM (constM (.bl true))) nextM)
theorem law_is : m_law = seqM (setM [] 1 (callM F_law_pen (consA (datA (slotM 0)) nilA))) (seqM (forS (iterL range1D (consL (constM (.int (3))) nilL)) (nameG [] 2) lawBody) lastS) := rfl
theorem laps3 (ρ : Rho) : iterL range1D (consL (constM (.int (3))) nilL) ρ = .ok [.int 0, .int 1, .int 2] ρ := by kernel_rfl
theorem truth (ns : List Int) (hl : ns.length ≤ 63) (_ : ∀ z ∈ ns, PySem.Builtin.Int.intBits z ≤ 1048576) : ∃ o, F_law [.d (.scr ns)] = .ok (.d (.bl true)) o := by
  obtain ⟨P, hP, e0⟩ := pen_ok ns hl
  obtain ⟨P1, c3, c4, c5, c6, c7, c8, c9, c10, hP1, e1⟩ := lap_ok hP (by omega) (some (.d (.scr ns))) (some (.d (.int 0))) none none none none none none none none none
  obtain ⟨P2, d3, d4, d5, d6, d7, d8, d9, d10, hP2, e2⟩ := lap_ok hP1 (by omega) (some (.d (.scr ns))) (some (.d (.int 1))) c3 c4 c5 c6 c7 c8 c9 c10 none
  obtain ⟨P3, g3, g4, g5, g6, g7, g8, g9, g10, hP3, e3⟩ := lap_ok hP2 (by omega) (some (.d (.scr ns))) (some (.d (.int 2))) d3 d4 d5 d6 d7 d8 d9 d10 none
  refine ⟨[.d .non], fn_ret (ρ := [some (.d (.scr ns)), some (.own P3), some (.d (.int 2)), g3, g4, g5, g6, g7, g8, g9, g10, none]) rfl ?_ rfl⟩
  show m_law [some (.d (.scr ns)), none, none, none, none, none, none, none, none, none, none, none] = _
  have hs : setM [] 1 (callM F_law_pen (consA (datA (slotM 0)) nilA)) [some (.d (.scr ns)), none, none, none, none, none, none, none, none, none, none, none] = .ok .nx [some (.d (.scr ns)), some (.own P), none, none, none, none, none, none, none, none, none, none] :=
    ev_set (ρ1 := [some (.d (.scr ns)), none, none, none, none, none, none, none, none, none, none, none]) (ev_call1 (a := .scr ns) rfl (by rw [pen_is]; exact e0)) rfl
  rw [law_is, seq_nx hs]
  have hf : forS (iterL range1D (consL (constM (.int (3))) nilL)) (nameG [] 2) lawBody [some (.d (.scr ns)), some (.own P), none, none, none, none, none, none, none, none, none, none] = .ok .nx [some (.d (.scr ns)), some (.own P3), some (.d (.int 2)), g3, g4, g5, g6, g7, g8, g9, g10, none] := by
    refine ev_for (laps3 _) ?_
    rw [forM_nx rfl e1, forM_nx rfl e2, forM_nx rfl e3]
    rfl
  rw [seq_nx hf]
  exact seq_ret (ev_ret rfl)
end K21
end FL
set_option Elab.async false
set_option linter.all false
set_option maxRecDepth 100000
set_option maxHeartbeats 0
open PySem PySem.W PyProof.Rows
set_option maxRecDepth 100000 in
set_option maxHeartbeats 0 in
theorem PySem.Challenge.cw_ownhalves_k21_roots_of_one_doubled_holds : PySem.Challenge.rw_ownhalves_k21_roots_of_one_doubled.Holds := by
  w_on; o_law; k_head; (case hw => w_witness2)
  k_fill
  refine FL.walk_end (l := PySem.Challenge.rw_ownhalves_k21_roots_of_one_doubled) (n := 63) (k := 11) (x := "script") (F := FL.K21.F_law) rfl (by decide) rfl ⟨rfl, by decide, by decide⟩ (fun w h Y => PySem.W.kIn_of Y) ?F FL.K21.truth
  case F =>
    intro w mg fa h KX G hmg
    refine' FL.K21.all_mk KX G hmg ?u_a0 ?u_a1 ?u_a2 ?u_a3 ?u_a4 ?u_a5 ?u_a6 ?u_a7 ?u_a8 ?u_a9 ?u_a10 ?u_a11 ?u_a12 ?u_a13 ?u_a14 ?u_a15 ?u_a16 ?u_a17 ?u_a18 ?u_a19 ?u_a20 ?u_a21 ?u_a22 ?u_a23 ?u_a24 ?u_a25 ?u_a26 ?u_a27 ?u_a28 ?u_a29 ?u_a30 ?u_a31 ?u_a32 ?u_a33 ?u_a34 ?u_a35 ?u_a36 ?u_a37 ?u_a38 ?u_a39 ?u_a40 ?u_a41 ?u_a42 ?u_a43 ?u_a44 ?u_a45 ?u_a46 ?u_g0 ?u_h0 ?u_g1 ?u_h1 ?u_g2 ?u_g3 ?u_g4 ?u_z0 ?u_z1 ?u_z2 ?u_z3 ?u_z4 ?u_z5 ?u_z6 ?u_z7 ?u_z8 ?u_z9 ?u_z10 ?u_z11 ?u_w0 ?u_l0 ?u_c0 ?u_k0 ?u_l1 ?u_c1 ?u_k1 ?u_l2 ?u_c2 ?u_k2 ?u_l3 ?u_c3 ?u_k3 ?u_l4 ?u_c4 ?u_k4 ?u_l5 ?u_c5 ?u_k5 ?u_l6 ?u_c6 ?u_k6 ?u_l7 ?u_c7 ?u_k7 ?u_l8 ?u_c8 ?u_k8 ?u_l9 ?u_c9 ?u_k9 ?u_l10 ?u_c10 ?u_k10 ?u_l11 ?u_c11 ?u_k11 ?u_l12 ?u_c12 ?u_k12 ?u_l13 ?u_c13 ?u_k13 ?u_l14 ?u_c14 ?u_k14 ?u_l15 ?u_c15 ?u_k15 ?u_l16 ?u_c16 ?u_k16 ?u_l17 ?u_c17 ?u_k17 ?u_l18 ?u_c18 ?u_k18 ?u_l19 ?u_c19 ?u_k19 ?u_l20 ?u_c20 ?u_k20 ?u_l21 ?u_c21 ?u_k21 ?u_l22 ?u_c22 ?u_k22 ?u_l23 ?u_c23 ?u_k23 ?u_l24 ?u_c24 ?u_k24 ?u_l25 ?u_c25 ?u_k25 ?u_l26 ?u_c26 ?u_k26 ?u_l27 ?u_c27 ?u_k27 ?u_l28 ?u_c28 ?u_k28 ?u_l29 ?u_c29 ?u_k29 ?u_l30 ?u_c30 ?u_k30 ?u_l31 ?u_c31 ?u_k31 ?u_l32 ?u_c32 ?u_k32 ?u_l33 ?u_c33 ?u_k33 ?u_l34 ?u_c34 ?u_k34 ?u_l35 ?u_c35 ?u_k35 ?u_l36 ?u_c36 ?u_k36 ?u_l37 ?u_c37 ?u_k37 ?u_l38 ?u_c38 ?u_k38 ?u_l39 ?u_c39 ?u_k39 ?u_l40 ?u_c40 ?u_k40 ?u_l41 ?u_c41 ?u_k41 ?u_l42 ?u_c42 ?u_k42 ?u_l43 ?u_c43 ?u_k43 ?u_l44 ?u_c44 ?u_k44 ?u_l45 ?u_c45 ?u_k45 ?u_l46 ?u_c46 ?u_k46
    (case u_a0 => k_is)
    (case u_a1 => k_is)
    (case u_a2 => k_is)
    (case u_a3 => k_is)
    (case u_a4 => k_is)
    (case u_a5 => k_is)
    (case u_a6 => k_is)
    (case u_a7 => k_is)
    (case u_a8 => k_is)
    (case u_a9 => k_is)
    (case u_a10 => k_is)
    (case u_a11 => k_is)
    (case u_a12 => k_is)
    (case u_a13 => k_is)
    (case u_a14 => k_is)
    (case u_a15 => k_is)
    (case u_a16 => k_is)
    (case u_a17 => k_is)
    (case u_a18 => k_is)
    (case u_a19 => k_is)
    (case u_a20 => k_is)
    (case u_a21 => k_is)
    (case u_a22 => k_is)
    (case u_a23 => k_is)
    (case u_a24 => k_is)
    (case u_a25 => k_is)
    (case u_a26 => k_is)
    (case u_a27 => k_is)
    (case u_a28 => k_is)
    (case u_a29 => k_is)
    (case u_a30 => k_is)
    (case u_a31 => k_is)
    (case u_a32 => k_is)
    (case u_a33 => k_is)
    (case u_a34 => k_is)
    (case u_a35 => k_is)
    (case u_a36 => k_is)
    (case u_a37 => k_is)
    (case u_a38 => k_is)
    (case u_a39 => k_is)
    (case u_a40 => k_is)
    (case u_a41 => k_is)
    (case u_a42 => k_is)
    (case u_a43 => k_is)
    (case u_a44 => k_is)
    (case u_a45 => k_is)
    (case u_a46 => k_is)
    (case u_g0 => k_is)
    (case u_h0 => k_is)
    (case u_g1 => k_is)
    (case u_h1 => k_is)
    (case u_g2 => k_is)
    (case u_g3 => k_is)
    (case u_g4 => k_is)
    (case u_z0 => k_is)
    (case u_z1 => k_is)
    (case u_z2 => k_is)
    (case u_z3 => k_is)
    (case u_z4 => k_is)
    (case u_z5 => k_is)
    (case u_z6 => k_is)
    (case u_z7 => k_is)
    (case u_z8 => k_is)
    (case u_z9 => k_is)
    (case u_z10 => k_is)
    (case u_z11 => k_is)
    (case u_w0 => k_is)
    (case u_l0 => k_is)
    (case u_c0 => k_is)
    (case u_k0 => k_is)
    (case u_l1 => k_is)
    (case u_c1 => k_is)
    (case u_k1 => k_is)
    (case u_l2 => k_is)
    (case u_c2 => k_is)
    (case u_k2 => k_is)
    (case u_l3 => k_is)
    (case u_c3 => k_is)
    (case u_k3 => k_is)
    (case u_l4 => k_is)
    (case u_c4 => k_is)
    (case u_k4 => k_is)
    (case u_l5 => k_is)
    (case u_c5 => k_is)
    (case u_k5 => k_is)
    (case u_l6 => k_is)
    (case u_c6 => k_is)
    (case u_k6 => k_is)
    (case u_l7 => k_is)
    (case u_c7 => k_is)
    (case u_k7 => k_is)
    (case u_l8 => k_is)
    (case u_c8 => k_is)
    (case u_k8 => k_is)
    (case u_l9 => k_is)
    (case u_c9 => k_is)
    (case u_k9 => k_is)
    (case u_l10 => k_is)
    (case u_c10 => k_is)
    (case u_k10 => k_is)
    (case u_l11 => k_is)
    (case u_c11 => k_is)
    (case u_k11 => k_is)
    (case u_l12 => k_is)
    (case u_c12 => k_is)
    (case u_k12 => k_is)
    (case u_l13 => k_is)
    (case u_c13 => k_is)
    (case u_k13 => k_is)
    (case u_l14 => k_is)
    (case u_c14 => k_is)
    (case u_k14 => k_is)
    (case u_l15 => k_is)
    (case u_c15 => k_is)
    (case u_k15 => k_is)
    (case u_l16 => k_is)
    (case u_c16 => k_is)
    (case u_k16 => k_is)
    (case u_l17 => k_is)
    (case u_c17 => k_is)
    (case u_k17 => k_is)
    (case u_l18 => k_is)
    (case u_c18 => k_is)
    (case u_k18 => k_is)
    (case u_l19 => k_is)
    (case u_c19 => k_is)
    (case u_k19 => k_is)
    (case u_l20 => k_is)
    (case u_c20 => k_is)
    (case u_k20 => k_is)
    (case u_l21 => k_is)
    (case u_c21 => k_is)
    (case u_k21 => k_is)
    (case u_l22 => k_is)
    (case u_c22 => k_is)
    (case u_k22 => k_is)
    (case u_l23 => k_is)
    (case u_c23 => k_is)
    (case u_k23 => k_is)
    (case u_l24 => k_is)
    (case u_c24 => k_is)
    (case u_k24 => k_is)
    (case u_l25 => k_is)
    (case u_c25 => k_is)
    (case u_k25 => k_is)
    (case u_l26 => k_is)
    (case u_c26 => k_is)
    (case u_k26 => k_is)
    (case u_l27 => k_is)
    (case u_c27 => k_is)
    (case u_k27 => k_is)
    (case u_l28 => k_is)
    (case u_c28 => k_is)
    (case u_k28 => k_is)
    (case u_l29 => k_is)
    (case u_c29 => k_is)
    (case u_k29 => k_is)
    (case u_l30 => k_is)
    (case u_c30 => k_is)
    (case u_k30 => k_is)
    (case u_l31 => k_is)
    (case u_c31 => k_is)
    (case u_k31 => k_is)
    (case u_l32 => k_is)
    (case u_c32 => k_is)
    (case u_k32 => k_is)
    (case u_l33 => k_is)
    (case u_c33 => k_is)
    (case u_k33 => k_is)
    (case u_l34 => k_is)
    (case u_c34 => k_is)
    (case u_k34 => k_is)
    (case u_l35 => k_is)
    (case u_c35 => k_is)
    (case u_k35 => k_is)
    (case u_l36 => k_is)
    (case u_c36 => k_is)
    (case u_k36 => k_is)
    (case u_l37 => k_is)
    (case u_c37 => k_is)
    (case u_k37 => k_is)
    (case u_l38 => k_is)
    (case u_c38 => k_is)
    (case u_k38 => k_is)
    (case u_l39 => k_is)
    (case u_c39 => k_is)
    (case u_k39 => k_is)
    (case u_l40 => k_is)
    (case u_c40 => k_is)
    (case u_k40 => k_is)
    (case u_l41 => k_is)
    (case u_c41 => k_is)
    (case u_k41 => k_is)
    (case u_l42 => k_is)
    (case u_c42 => k_is)
    (case u_k42 => k_is)
    (case u_l43 => k_is)
    (case u_c43 => k_is)
    (case u_k43 => k_is)
    (case u_l44 => k_is)
    (case u_c44 => k_is)
    (case u_k44 => k_is)
    (case u_l45 => k_is)
    (case u_c45 => k_is)
    (case u_k45 => k_is)
    (case u_l46 => k_is)
    (case u_c46 => k_is)
    (case u_k46 => k_is)
