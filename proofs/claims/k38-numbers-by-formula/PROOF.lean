import PyProof.Rows.All
import Wide.All
import OpenK.AllK
import Wide.FinOn
import KE.KLam
import HandS.ForMost
import HandS.Exc
import HandS.ExcOwn
import HandS.Codes
import HandS.TryOnly
import HandS.Lambda
import HandS.Defaults
import HandS.Evl
import HandS.Zip
import HandS.Style
import HandS.SortInts
import HandS.TupMul
import HandS.TupAny
import HandS.IsInst
import KE.KRevSl
import HandS.More
import KE.GoesMore
import HandS.MakeKwOnly
import HandS.Flt
import KE.KStateDown
import HandS.Head0
import HandS.Head1
import HandS.Head2
import HandS.HeadEnd
import HandS.HeadHook1
import HandS.HeadHook2
import HandS.HeadHook3
import HandS.HeadHook4
import HandS.HeadWalk
import PyProof.ReprRoads
import HandS.RevTup
import HandS.Rev
import PyProof.ListNew
import HandS.Wide
import PySem.Challenge.RW_tokensteps_k38_whole_numbers_by_formula
set_option Elab.async false
set_option linter.all false
set_option maxRecDepth 100000
set_option maxHeartbeats 2000000
/-! Pv: expressions evaluate to data. A world: the frozen part F (data that never changes) of the abstract heap H. -/
namespace Pv
open PySem PySem.Spec PyProof.Rows L2
abbrev PD := PyData

/-! ### worlds -/
structure Wd where
  F : Hp
  H : Hp
  sub : ∀ a o, F a = some o → H a = some o
structure Le (M : Addr → Prop) (W V : Wd) : Prop where
  f : ∀ a o, W.F a = some o → V.F a = some o
  h : ∀ a o, ¬ M a → W.H a = some o → V.H a = some o
  n : ∀ a, W.F a = none → W.H a ≠ none → V.F a = none
  k : ∀ a, W.H a ≠ none → V.H a ≠ none
abbrev M0 : Addr → Prop := fun _ => False
theorem Le.refl {M : Addr → Prop} (W : Wd) : Le M W W := ⟨fun _ _ h => h, fun _ _ _ h => h, fun _ h _ => h, fun _ h => h⟩
theorem Le.trans {M : Addr → Prop} {W V U : Wd} (a : Le M W V) (b : Le M V U) : Le M W U :=
  ⟨fun x o h => b.f x o (a.f x o h), fun x o m h => b.h x o m (a.h x o m h), fun x h k => b.n x (a.n x h k) (a.k x k), fun x h => b.k x (a.k x h)⟩
theorem Le.mono {M N : Addr → Prop} {W V : Wd} (a : Le M W V) (h : ∀ x, M x → N x) : Le N W V := ⟨a.f, fun x o m e => a.h x o (fun z => m (h x z)) e, a.n, a.k⟩
theorem Le.of0 {M : Addr → Prop} {W V : Wd} (a : Le M0 W V) : Le M W V := a.mono fun _ z => z.elim
theorem upd_none {H : Hp} {p : Addr} {o : HO} (h : H p = none) : ∀ a u, H a = some u → upd H p o a = some u := fun a u e => by
  rw [upd_ne (ne_of_none e h)]
  exact e
/-- a new object, frozen at once -/
def Wd.frz (W : Wd) (p : Addr) (o : HO) (h : W.H p = none) : Wd := ⟨upd W.F p o, upd W.H p o, fun a u e => by
  by_cases q : a = p
  · subst q
    rw [upd_same] at e ⊢
    exact e
  · rw [upd_ne q] at e ⊢
    exact W.sub a u e⟩
/-- a new object, not frozen -/
def Wd.own (W : Wd) (p : Addr) (o : HO) (h : W.H p = none) : Wd := ⟨W.F, upd W.H p o, fun a u e => upd_none h a u (W.sub a u e)⟩
/-- an object changed that is not frozen -/
def Wd.put (W : Wd) (p : Addr) (o : HO) (h : W.F p = none) : Wd := ⟨W.F, upd W.H p o, fun a u e => by
  rw [upd_ne (ne_of_none e h)]
  exact W.sub a u e⟩
/-- an object frozen as it stands -/
def Wd.ice (W : Wd) (p : Addr) (o : HO) (h : W.H p = some o) : Wd := ⟨upd W.F p o, W.H, fun a u e => by
  by_cases q : a = p
  · subst q
    rw [upd_same] at e
    rw [h]
    exact e
  · rw [upd_ne q] at e
    exact W.sub a u e⟩
theorem Wd.fnone (W : Wd) {p : Addr} (h : W.H p = none) : W.F p = none := by
  cases e : W.F p with
  | none => rfl
  | some o =>
    have := W.sub p o e
    rw [h] at this
    cases this
theorem upd_some_ne {H : Hp} {p a : Addr} {o : HO} (h : H a ≠ none) : upd H p o a ≠ none := by
  by_cases q : a = p
  · subst q
    rw [upd_same]
    exact fun z => nomatch z
  · rw [upd_ne q]
    exact h
theorem Le.frz {M : Addr → Prop} {W : Wd} {p : Addr} {o : HO} (h : W.H p = none) : Le M W (W.frz p o h) :=
  ⟨upd_none (W.fnone h), fun a u _ e => upd_none h a u e, fun a e k => by
    have q : a ≠ p := fun z => k (z ▸ h)
    show upd W.F p o a = none
    rw [upd_ne q]
    exact e, fun a k => upd_some_ne k⟩
theorem Le.own {M : Addr → Prop} {W : Wd} {p : Addr} {o : HO} (h : W.H p = none) : Le M W (W.own p o h) :=
  ⟨fun _ _ e => e, fun a u _ e => upd_none h a u e, fun a e _ => e, fun a k => upd_some_ne k⟩
theorem Le.put {M : Addr → Prop} {W : Wd} {p : Addr} {o : HO} (h : W.F p = none) (hm : M p) : Le M W (W.put p o h) :=
  ⟨fun _ _ e => e, fun a u m e => by
    have q : a ≠ p := fun z => m (z ▸ hm)
    show upd W.H p o a = some u
    rw [upd_ne q]
    exact e, fun a e _ => e, fun a k => upd_some_ne k⟩
/-- frozen: for what was not known ahead -/
theorem Le.ice {M : Addr → Prop} {U W : Wd} {p : Addr} {o : HO} (a : Le M U W) (hu : U.H p = none) (h : W.H p = some o) (hf : W.F p = none) : Le M U (W.ice p o h) :=
  ⟨fun x u e => by
    show upd W.F p o x = some u
    rw [upd_ne (ne_of_none (U.sub x u e) hu)]
    exact a.f x u e, a.h, fun x e k => by
    have q : x ≠ p := fun z => k (z ▸ hu)
    show upd W.F p o x = none
    rw [upd_ne q]
    exact a.n x e k, a.k⟩

end Pv
namespace L2
open PySem PySem.Spec PyProof.Rows
/-! ### data in a frozen heap -/
mutual
theorem Dp.mono {K : PySem.W.Frag} {F G : Hp} (h : ∀ a o, F a = some o → G a = some o) : ∀ {v : V} {d : PyData}, Dp K F v d → Dp K G v d
  | _, _, .non => .non
  | _, _, .bl b => .bl b
  | _, _, .int i => .int i
  | _, _, .str x => .str x
  | _, _, .lst hs ha => .lst (Evl.ex_l h hs) (DpAll.mono h ha)
  | _, _, .tup hs ha => .tup (Evl.ex_t h hs) (DpAll.mono h ha)
theorem DpAll.mono {K : PySem.W.Frag} {F G : Hp} (h : ∀ a o, F a = some o → G a = some o) : ∀ {vs : List V} {ds : List PyData}, DpAll K F vs ds → DpAll K G vs ds
  | _, _, .nil => .nil
  | _, _, .cons a b => .cons (Dp.mono h a) (DpAll.mono h b)
end
theorem DpAll.len {K : PySem.W.Frag} {F : Hp} : ∀ {vs : List V} {ds : List PyData}, DpAll K F vs ds → vs.length = ds.length
  | _, _, .nil => rfl
  | _, _, .cons _ b => congrArg (· + 1) (DpAll.len b)
theorem DpAll.get {K : PySem.W.Frag} {F : Hp} : ∀ {vs : List V} {ds : List PyData} {i : Nat} {v : V}, DpAll K F vs ds → vs[i]? = some v → ∃ d, ds[i]? = some d ∧ Dp K F v d
  | _, _, _, _, .nil, e => by simp at e
  | _, _, 0, _, .cons a _, e => by
    simp at e
    subst e
    exact ⟨_, rfl, a⟩
  | _, _, i + 1, v, .cons _ b, e => by
    obtain ⟨d, h1, h2⟩ := DpAll.get (i := i) (v := v) b (by simpa using e)
    exact ⟨d, by simpa using h1, h2⟩
theorem DpAll.get' {K : PySem.W.Frag} {F : Hp} : ∀ {vs : List V} {ds : List PyData} {i : Nat} {d : PyData}, DpAll K F vs ds → ds[i]? = some d → ∃ v, vs[i]? = some v ∧ Dp K F v d
  | _, _, _, _, .nil, e => by simp at e
  | _, _, 0, _, .cons a _, e => by
    simp at e
    subst e
    exact ⟨_, rfl, a⟩
  | _, _, i + 1, d, .cons _ b, e => by
    obtain ⟨v, h1, h2⟩ := DpAll.get' (i := i) (d := d) b (by simpa using e)
    exact ⟨v, by simpa using h1, h2⟩
theorem DpAll.app {K : PySem.W.Frag} {F : Hp} : ∀ {vs us : List V} {ds es : List PyData}, DpAll K F vs ds → DpAll K F us es → DpAll K F (vs ++ us) (ds ++ es)
  | _, _, _, _, .nil, h => h
  | _, _, _, _, .cons a b, h => .cons a (DpAll.app b h)
theorem DpAll.one {K : PySem.W.Frag} {F : Hp} {v : V} {d : PyData} (h : Dp K F v d) : DpAll K F [v] [d] := .cons h .nil
theorem DpAll.take {K : PySem.W.Frag} {F : Hp} : ∀ {vs : List V} {ds : List PyData} (n : Nat), DpAll K F vs ds → DpAll K F (vs.take n) (ds.take n)
  | _, _, 0, _ => by simpa using DpAll.nil
  | _, _, _ + 1, .nil => .nil
  | _, _, n + 1, .cons a b => .cons a (DpAll.take n b)
theorem DpAll.drop {K : PySem.W.Frag} {F : Hp} : ∀ {vs : List V} {ds : List PyData} (n : Nat), DpAll K F vs ds → DpAll K F (vs.drop n) (ds.drop n)
  | _, _, 0, h => h
  | _, _, _ + 1, .nil => .nil
  | _, _, n + 1, .cons _ b => DpAll.drop n b
theorem DpAll.rev {K : PySem.W.Frag} {F : Hp} : ∀ {vs : List V} {ds : List PyData}, DpAll K F vs ds → DpAll K F vs.reverse ds.reverse
  | _, _, .nil => .nil
  | _, _, .cons a b => by
    rw [List.reverse_cons, List.reverse_cons]
    exact DpAll.app (DpAll.rev b) (DpAll.one a)
theorem DpAll.ints {K : PySem.W.Frag} {F : Hp} : ∀ {vs : List V} {ns : List Int}, DpAll K F vs (ns.map PyData.int) → vs = ns.map V.int
  | _, [], .nil => rfl
  | _, n :: ns, .cons (.int _) b => by rw [DpAll.ints b, List.map_cons]
theorem DpAll.bls {K : PySem.W.Frag} {F : Hp} : ∀ {vs : List V} {ns : List Bool}, DpAll K F vs (ns.map PyData.bool) → vs = ns.map V.bl
  | _, [], .nil => rfl
  | _, n :: ns, .cons (.bl _) b => by rw [DpAll.bls b, List.map_cons]
end L2
namespace Pv
open PySem PySem.Spec PyProof.Rows L2
theorem dpInts {K : PySem.W.Frag} {F : Hp} : ∀ (ns : List Int), DpAll K F (ns.map V.int) (ns.map PyData.int)
  | [] => .nil
  | n :: ns => .cons (.int n) (dpInts ns)

/-- what a value stands for: data; a dict with int and text keys whose values are data -/
inductive Sv where
  | d (x : PD)
  | dk (kvs : List (Key × PD))
  /-- a tuple that tuple() made: its object is known to have no dict -/
  | pt (ds : List PD)
abbrev KVD (K : PySem.W.Frag) (F : Hp) : List (Key × V) → List (Key × PD) → Prop := Paired fun p q => p.1 = q.1 ∧ Dp K F p.2 q.2
def Is (K : PySem.W.Frag) (F : Hp) (v : V) : Sv → Prop
  | .d x => Dp K F v x
  | .dk kvs => ∃ a vs, v = .ref a ∧ F a = some (.dK vs) ∧ KVD K F vs kvs
  | .pt ds => ∃ a ob vs, v = .ref a ∧ F a = some (.frz ob (.tup vs)) ∧ ob.cls = .type "tuple" ∧ ob.dict = none ∧ DpAll K F vs ds
theorem KVD.mono {K : PySem.W.Frag} {F G : Hp} (h : ∀ a o, F a = some o → G a = some o) {vs : List (Key × V)} {kvs : List (Key × PD)} (r : KVD K F vs kvs) : KVD K G vs kvs :=
  Paired.mapP r fun _ _ z => ⟨z.1, Dp.mono h z.2⟩
theorem Is.mono {K : PySem.W.Frag} {F G : Hp} (h : ∀ a o, F a = some o → G a = some o) {v : V} : ∀ {x : Sv}, Is K F v x → Is K G v x
  | .d _, q => Dp.mono h q
  | .dk _, ⟨a, vs, e, f, r⟩ => ⟨a, vs, e, h _ _ f, r.mono h⟩
  | .pt _, ⟨a, ob, vs, e, f, c, n, r⟩ => ⟨a, ob, vs, e, h _ _ f, c, n, r.mono h⟩
theorem Is.pt {K : PySem.W.Frag} {F : Hp} {v : V} {ds : List PD} (q : Is K F v (.pt ds)) : Is K F v (.d (.tuple ds)) := by
  obtain ⟨a, ob, vs, e, f, _, _, r⟩ := q
  subst e
  exact Dp.tup (.inl (.inr ⟨ob, f⟩)) r
theorem Is.le {K : PySem.W.Frag} {M : Addr → Prop} {W V' : Wd} (h : Le M W V') {v : V} {x : Sv} (q : Is K W.F v x) : Is K V'.F v x := q.mono h.f
theorem Is.int {K : PySem.W.Frag} {F : Hp} {v : V} {i : Int} (q : Is K F v (.d (.int i))) : v = .int i := by
  cases q
  rfl
theorem Is.bl {K : PySem.W.Frag} {F : Hp} {v : V} {i : Bool} (q : Is K F v (.d (.bool i))) : v = .bl i := by
  cases q
  rfl
theorem Is.str {K : PySem.W.Frag} {F : Hp} {v : V} {i : Str} (q : Is K F v (.d (.str i))) : v = .str i := by
  cases q
  rfl
theorem Is.non {K : PySem.W.Frag} {F : Hp} {v : V} (q : Is K F v (.d .none)) : v = .non := by
  cases q
  rfl
theorem Is.tup {K : PySem.W.Frag} {F : Hp} {v : V} {ds : List PD} (q : Is K F v (.d (.tuple ds))) : ∃ a vs, v = .ref a ∧ SqT K F a vs ∧ DpAll K F vs ds := by
  cases q with
  | tup h1 h2 => exact ⟨_, _, rfl, h1, h2⟩
theorem Is.lst {K : PySem.W.Frag} {F : Hp} {v : V} {ds : List PD} (q : Is K F v (.d (.list ds))) : ∃ a vs, v = .ref a ∧ SqL K F a vs ∧ DpAll K F vs ds := by
  cases q with
  | lst h1 h2 => exact ⟨_, _, rfl, h1, h2⟩
theorem sqT_sub {K : PySem.W.Frag} (W : Wd) {a : Addr} {vs : List V} (h : SqT K W.F a vs) : SqT K W.H a vs := Evl.ex_t W.sub h
theorem sqL_sub {K : PySem.W.Frag} (W : Wd) {a : Addr} {vs : List V} (h : SqL K W.F a vs) : SqL K W.H a vs := Evl.ex_l W.sub h
theorem dp_sub {K : PySem.W.Frag} (W : Wd) {v : V} {d : PD} (h : Dp K W.F v d) : Dp K W.H v d := Dp.mono W.sub h

/-! ### modes: a resource beside the data -/
/-- what a def may own and change: lists, dicts -/
def isOwn : HO → Bool
  | .lst _ => true
  | .dK _ => true
  | .dT _ => true
  | _ => false
structure Mode where
  ι : Type
  M : Addr → Prop
  R : ι → Wd → Prop
  st : ∀ i W V, R i W → (∀ a o, W.H a = some o → V.H a = some o) → (∀ a, M a → V.F a = none) → R i V
  al : ∀ i W, R i W → ∀ a, M a → W.H a ≠ none ∧ W.F a = none
  pt : ∀ i W l o u (h : W.F l = none), R i W → ¬ M l → W.H l = some o → isOwn o = true → R i (W.put l u h)
/-- nothing beside -/
def m0 : Mode := ⟨Unit, M0, fun _ _ => True, fun _ _ _ _ _ _ => True.intro, fun _ _ _ _ z => z.elim, fun _ _ _ _ _ _ _ _ _ _ => True.intro⟩
theorem Mode.le0 (m : Mode) {i : m.ι} {W V : Wd} (r : m.R i W) (h : Le M0 W V) : m.R i V := m.st i W V r (fun a o e => h.h a o (fun z => z) e) fun a z => h.n a (m.al i W r a z).2 (m.al i W r a z).1

/-! ### families of contexts -/
structure RoomG (k : Nat) (A : Around) : Prop where
  r : Room k A
  g : A.guards = some []
theorem RoomG.mono {j k : Nat} {A : Around} (r : RoomG k A) (h : j ≤ k) : RoomG j A := ⟨r.r.mono h, r.g⟩
theorem RoomG.deeper {k : Nat} {A : Around} (r : RoomG (k + 1) A) (env : Env) : RoomG k (A.deeper env) := ⟨r.r.deeper env, r.g⟩
structure Fam where
  α : Type
  X : α → Cx
  P : Program
  w : World
  K : PySem.W.Frag
  mg : Str → Option Value
  base : Heap
  N : List Str
  sc : Scope
  k : Nat
  hP : ∀ a, (X a).prog = P
  hw : ∀ a, (X a).w = w
  hK : ∀ a, (X a).K = K
  hmg : ∀ a, (X a).mg = mg
  hbase : ∀ a, (X a).base = base
  hN : ∀ a, (X a).N = N
  hsc : ∀ a, (X a).env.scope = sc
  hc : ∀ a, (X a).calm = true
  hr : ∀ a, RoomG k (X a).A
  nd : N.Nodup
def wE (Y : Fam) (e : Expr) : TE := fun σ H Q => ∃ t : TE, (∀ a, PE (Y.X a) e t) ∧ t σ H Q
theorem wE_ok {Y : Fam} {e : Expr} (a : Y.α) : PE (Y.X a) e (wE Y e) := ⟨fun pins s σ H Q I ⟨_, h, q⟩ => (h a).run pins s σ H Q I q⟩
def wT (Y : Fam) (e : Expr) : TT := fun σ H Q => ∃ t : TT, (∀ a, PT (Y.X a) e t) ∧ t σ H Q
theorem wT_ok {Y : Fam} {e : Expr} (a : Y.α) : PT (Y.X a) e (wT Y e) := ⟨fun pins s σ H Q I ⟨_, h, q⟩ => (h a).run pins s σ H Q I q⟩
def wW (Y : Fam) (e : Expr) : TT := fun σ H Q => ∃ t : TT, (∀ a, PW (Y.X a) e t) ∧ t σ H Q
theorem wW_ok {Y : Fam} {e : Expr} (a : Y.α) : PW (Y.X a) e (wW Y e) := ⟨fun wh pins s σ H Q I ⟨_, h, q⟩ => (h a).run wh pins s σ H Q I q⟩
def wA (Y : Fam) (es : List Expr) : TA := fun σ H Q => ∃ t : TA, (∀ a, PA (Y.X a) es t) ∧ t σ H Q
theorem wA_ok {Y : Fam} {es : List Expr} (a : Y.α) : PA (Y.X a) es (wA Y es) := ⟨fun pos pins s σ H Q I ⟨_, h, q⟩ => (h a).run pos pins s σ H Q I q⟩
def wI (Y : Fam) (tg it : Expr) : TI := fun σ H R => ∃ t : TI, (∀ a, PI (Y.X a) tg it t) ∧ t σ H R
theorem wI_ok {Y : Fam} {tg it : Expr} (a : Y.α) : PI (Y.X a) tg it (wI Y tg it) := ⟨fun pins s σ H R I ⟨_, h, q⟩ => (h a).run pins s σ H R I q⟩
def wG (Y : Fam) (tg : Expr) : TG := fun v σ H Q => ∃ t : TG, (∀ a, PG (Y.X a) tg t) ∧ t v σ H Q
theorem wG_ok {Y : Fam} {tg : Expr} (a : Y.α) : PG (Y.X a) tg (wG Y tg) := ⟨fun pins s σ H v u Q I r ⟨_, h, q⟩ => (h a).run pins s σ H v u Q I r q⟩
def wSs (Y : Fam) (ss : List Stmt) : TS := fun D σ H => ∃ t : TS, (∀ a, PSs (Y.X a) ss t) ∧ t D σ H
theorem wSs_ok {Y : Fam} {ss : List Stmt} (a : Y.α) : PSs (Y.X a) ss (wSs Y ss) := ⟨fun pins s σ H D I ⟨_, h, q⟩ => (h a).run pins s σ H D I q⟩
def wO (Y : Fam) (e : Option Expr) : TO := fun σ H Q => ∃ t : TO, (∀ a, PO (Y.X a) e t) ∧ t σ H Q
def wTs (Y : Fam) (es : List Expr) : TT := fun σ H Q => ∃ t : TT, (∀ a, PTs (Y.X a) es t) ∧ t σ H Q
theorem wTs_ok {Y : Fam} {es : List Expr} (a : Y.α) : PTs (Y.X a) es (wTs Y es) := ⟨fun pins s σ H Q I ⟨_, h, q⟩ => (h a).run pins s σ H Q I q⟩

/-! ### judgements -/
section
variable (m : Mode) (Y : Fam) (σ : L2.St) (W : Wd)
/-- an expression, by a word on the value -/
def EG (i : m.ι) (e : Expr) (P : Wd → V → Wd → Prop) (j : m.ι) : Prop :=
  ∀ U, Le m.M W U → m.R i U → ∀ Q : VK, (∀ v T, Le m.M U T → m.R j T → P U v T → Q v T.H) → wE Y e σ U.H Q
/-- .. it stands for x -/
def E (i : m.ι) (e : Expr) (x : Sv) (j : m.ι) : Prop := EG m Y σ W i e (fun _ v T => Is Y.K T.F v x) j
/-- .. a new list, not frozen yet -/
def EL (i : m.ι) (e : Expr) (ds : List PD) (j : m.ι) : Prop :=
  EG m Y σ W i e (fun U v T => ∃ p vs, v = .ref p ∧ U.H p = none ∧ T.F p = none ∧ T.H p = some (.lst vs) ∧ DpAll Y.K T.F vs ds) j
/-- .. a new dict -/
def ED (i : m.ι) (e : Expr) (kvs : List (Key × PD)) (j : m.ι) : Prop :=
  EG m Y σ W i e (fun U v T => ∃ p vs, v = .ref p ∧ U.H p = none ∧ T.F p = none ∧ T.H p = some (.dK vs) ∧ KVD Y.K T.F vs kvs) j
/-- a test -/
def ET (i : m.ι) (e : Expr) (b : Bool) (j : m.ι) : Prop :=
  ∀ U, Le m.M W U → m.R i U → ∀ Q : Bool → Hp → Prop, (∀ T, Le m.M U T → m.R j T → Q b T.H) → wT Y e σ U.H Q
def EW (i : m.ι) (e : Expr) (b : Bool) (j : m.ι) : Prop :=
  ∀ U, Le m.M W U → m.R i U → ∀ Q : Bool → Hp → Prop, (∀ T, Le m.M U T → m.R j T → Q b T.H) → wW Y e σ U.H Q
inductive AllIs (K : PySem.W.Frag) (F : Hp) : List V → List Sv → Prop
  | nil : AllIs K F [] []
  | cons {v : V} {vs : List V} {x : Sv} {xs : List Sv} : Is K F v x → AllIs K F vs xs → AllIs K F (v :: vs) (x :: xs)
/-- arguments -/
def EA (i : m.ι) (es : List Expr) (xs : List Sv) (j : m.ι) : Prop :=
  ∀ U, Le m.M W U → m.R i U → ∀ Q : List V → Hp → Prop, (∀ vs T, Le m.M U T → m.R j T → AllIs Y.K T.F vs xs → Q vs T.H) → wA Y es σ U.H Q
end
theorem AllIs.mono {K : PySem.W.Frag} {F G : Hp} (h : ∀ a o, F a = some o → G a = some o) : ∀ {vs : List V} {xs : List Sv}, AllIs K F vs xs → AllIs K G vs xs
  | _, _, .nil => .nil
  | _, _, .cons a b => .cons (a.mono h) (AllIs.mono h b)
theorem AllIs.ds {K : PySem.W.Frag} {F : Hp} : ∀ {vs : List V} {ds : List PD}, AllIs K F vs (ds.map Sv.d) → DpAll K F vs ds
  | _, [], .nil => .nil
  | _, _ :: _, .cons a b => .cons a (AllIs.ds b)
theorem AllIs.len {K : PySem.W.Frag} {F : Hp} : ∀ {vs : List V} {xs : List Sv}, AllIs K F vs xs → vs.length = xs.length
  | _, _, .nil => rfl
  | _, _, .cons _ b => congrArg (· + 1) (AllIs.len b)

section
variable {m : Mode} {Y : Fam} {σ : L2.St} {W W' : Wd} {i j k : m.ι} {e a b c : Expr} {pos : Pos} {x y z : Sv}
theorem EG.le {P : Wd → V → Wd → Prop} (h : Le m.M W W') (q : EG m Y σ W i e P j) : EG m Y σ W' i e P j := fun U h1 => q U (h.trans h1)
theorem E.le (h : Le m.M W W') (q : E m Y σ W i e x j) : E m Y σ W' i e x j := EG.le h q
theorem EG.imp {P Q : Wd → V → Wd → Prop} (q : EG m Y σ W i e P j) (h : ∀ U v T, Le m.M W U → m.R i U → Le m.M U T → m.R j T → P U v T → Q U v T) : EG m Y σ W i e Q j :=
  fun U h1 r Q' k => q U h1 r Q' fun v T h2 r2 p => k v T h2 r2 (h U v T h1 r h2 r2 p)
theorem Mode.nm (m : Mode) {i : m.ι} {U : Wd} {p : Addr} (r : m.R i U) (h : U.H p = none) : ¬ m.M p := fun z => (m.al i U r p z).1 h
theorem E.is (q : E m Y σ W i e x j) (h : x = y) : E m Y σ W i e y j := h ▸ q
/-- the new list is frozen -/
theorem EL.E {ds : List PD} (q : EL m Y σ W i e ds j) : E m Y σ W i e (.d (.list ds)) j := fun U h1 r Q k =>
  q U h1 r Q fun v T h2 r2 ⟨p, vs, e1, e2, e3, e4, e5⟩ => by
    have up : ∀ a o, T.F a = some o → upd T.F p (.lst vs) a = some o := upd_none e3
    refine k v (T.ice p _ e4) (h2.ice e2 e4 e3) (m.st j T _ r2 (fun _ _ z => z) fun a z => ?_) ?_
    · have q : a ≠ p := fun w => (m.al i U r a z).1 (w ▸ e2)
      show upd T.F p _ a = none
      rw [upd_ne q]
      exact (m.al j T r2 a z).2
    · subst e1
      exact Dp.lst (SqL.of upd_same) (e5.mono up)
theorem ED.E {kvs : List (Key × PD)} (q : ED m Y σ W i e kvs j) : E m Y σ W i e (.dk kvs) j := fun U h1 r Q k =>
  q U h1 r Q fun v T h2 r2 ⟨p, vs, e1, e2, e3, e4, e5⟩ => by
    have up : ∀ a o, T.F a = some o → upd T.F p (.dK vs) a = some o := upd_none e3
    refine k v (T.ice p _ e4) (h2.ice e2 e4 e3) (m.st j T _ r2 (fun _ _ z => z) fun a z => ?_) ?_
    · have q : a ≠ p := fun w => (m.al i U r a z).1 (w ▸ e2)
      show upd T.F p _ a = none
      rw [upd_ne q]
      exact (m.al j T r2 a z).2
    · exact ⟨p, vs, e1, upd_same, e5.mono up⟩

/-! ### comparisons: as values, as tests -/
def EC (m : Mode) (Y : Fam) (σ : L2.St) (W : Wd) (i : m.ι) (e : Expr) (u : Bool) (j : m.ι) : Prop :=
  ∀ U, Le m.M W U → m.R i U → ∀ Q : VK, (∀ v T, Le m.M U T → m.R j T → Is Y.K T.F v (.d (.bool u)) → Q v T.H) → ∃ t : TE, (∀ a, PE (Y.X a) e t ∧ PT (Y.X a) e (tTest t)) ∧ t σ U.H Q
theorem EC.val {u : Bool} (h : EC m Y σ W i e u j) : E m Y σ W i e (.d (.bool u)) j := fun U h1 r Q k => by
  obtain ⟨t, q1, q2⟩ := h U h1 r Q k
  exact ⟨t, fun a => (q1 a).1, q2⟩
theorem EC.tst {u : Bool} (h : EC m Y σ W i e u j) : ET m Y σ W i e u j := fun U h1 r Q k => by
  obtain ⟨t, q1, q2⟩ := h U h1 r (fun x H' => ∃ b, x = .bl b ∧ Q b H') fun v T l r2 p => ⟨u, p.bl, k T l r2⟩
  exact ⟨tTest t, fun a => (q1 a).2, q2⟩
theorem EC.eq {u v : Bool} (h : EC m Y σ W i e u j) (q : u = v) : EC m Y σ W i e v j := q ▸ h
theorem cmpR {X : Cx} {a b : Expr} {ta tb : TE} {pos : Pos} {op : CmpOp} {r : R2} (ho : OpR X (compareOp op) r) (ha : PE X a ta) (hb : PE X b tb) (hm : behindInMarks op b = false) : PE X (.Compare a [op] [b] pos) (tOp r ta tb) ∧ PT X (.Compare a [op] [b] pos) (tTest (tOp r ta tb)) := ⟨pe_cmpR ho ha hb hm, pt_cmpR ho ha hb hm⟩
theorem cmpC {X : Cx} {a b : Expr} {pos : Pos} {op : CmpOp} {t : TE} (h : PC X op a b t) (h1 : behindInMarks op b = false := by first | exact nobehind _ (by decide) (by decide) | rfl) : PE X (.Compare a [op] [b] pos) t ∧ PT X (.Compare a [op] [b] pos) (tTest t) := ⟨pe_cmp h h1, pt_cmp h h1⟩
theorem cmpH {X : Cx} {a b c : Expr} {ta tb tc : TE} {pos : Pos} {op op' : CmpOp} {r r' : R2} (ho : OpR X (compareOp op) r) (ho' : OpR X (compareOp op') r') (ha : PE X a ta) (hb : PE X b tb) (hc : PE X c tc) (hm : lastMarks [op, op'] [b, c] = false) :
    PE X (.Compare a [op, op'] [b, c] pos) (tChain r r' ta tb tc) ∧ PT X (.Compare a [op, op'] [b, c] pos) (tTest (tChain r r' ta tb tc)) := ⟨pe_chain ho ho' ha hb hc hm, pt_chain ho ho' ha hb hc hm⟩
/-! ### names, constants -/
theorem e_var {n : Nat} {s : Str} {v : V} (hN : Y.N[n]? = some s) (hv : Vis Y.sc s) (hs : σ[n]? = some (some v)) (h : Is Y.K W.F v x) (hd : (s == ("__debug__" : Str)) = false := by decide) (hcd : (s == ("__classdict__" : Str)) = false := by decide) :
    E m Y σ W i (.Name s pos) x i := fun U h1 r Q k => ⟨tVar n, fun a => pe_var (by rw [Y.hN]; exact hN) (by rw [Y.hsc]; exact hv) hd hcd, v, hs, k v U (Le.refl U) r (h.le h1)⟩
theorem e_int {n : Int} {l : Nat} : E m Y σ W i (.Constant (.int n) l pos) (.d (.int n)) i := fun U _ r Q k => ⟨tC (.int n), fun _ => pe_int, k _ U (Le.refl U) r (Dp.int n)⟩
theorem e_bl {n : Bool} {l : Nat} : E m Y σ W i (.Constant (.bool n) l pos) (.d (.bool n)) i := fun U _ r Q k => ⟨tC (.bl n), fun _ => pe_bl, k _ U (Le.refl U) r (Dp.bl n)⟩
theorem e_non {l : Nat} : E m Y σ W i (.Constant .none l pos) (.d .none) i := fun U _ r Q k => ⟨tC .non, fun _ => pe_non, k _ U (Le.refl U) r Dp.non⟩
theorem e_str {n : Str} {l : Nat} : E m Y σ W i (.Constant (.str n) l pos) (.d (.str n)) i := fun U _ r Q k => ⟨tC (.str n), fun _ => pe_str, k _ U (Le.refl U) r (Dp.str n)⟩
def Gb (Y : Fam) (s : Str) : Prop := Y.sc.names.lookup s = some .globalImplicit
theorem Gb.gl {s : Str} (h : Gb Y s) (a : Y.α) : Gl (Y.X a) s := by
  show (Y.X a).env.scope.names.lookup s = some .globalImplicit
  rw [Y.hsc]
  exact h
theorem e_gint {s : Str} {n : Int} (hg : Gb Y s) (hm : ∃ t, Y.mg s = some (.int n t)) (hd : (s == ("__debug__" : Str)) = false := by decide) : E m Y σ W i (.Name s pos) (.d (.int n)) i := fun U _ r Q k => by
  obtain ⟨t, hm⟩ := hm
  exact ⟨tC (.int n), fun a => pe_glob (hg.gl a) (by rw [Y.hmg]; exact hm) ⟨t, rfl⟩ hd, k _ U (Le.refl U) r (Dp.int n)⟩

/-! ### ints -/
theorem e_int2 {op : Operator} {C : Int → Int → Prop} {g : Int → Int → Int} {u v : Int} (ho : ∀ X : Cx, OpR X (binaryOp op) (rI C fun i j => .int (g i j))) (ha : E m Y σ W i a (.d (.int u)) j) (hb : E m Y σ W j b (.d (.int v)) k) (hc : C u v) :
    E m Y σ W i (.BinOp a op b pos) (.d (.int (g u v))) k := fun U h1 r Q q =>
  ⟨_, fun a => pe_op (ho _) (wE_ok a) (wE_ok a), ha U h1 r _ fun v1 T1 l1 r1 p1 => hb T1 (h1.trans l1) r1 _ fun v2 T2 l2 r2 p2 =>
    ⟨u, v, p1.int, p2.int, hc, q _ T2 (l1.trans l2) r2 (Dp.int _)⟩⟩
theorem e_int20 {op : Operator} {g : Int → Int → Int} {u v : Int} (ho : ∀ X : Cx, OpR X (binaryOp op) (rI0 fun i j => .int (g i j))) (ha : E m Y σ W i a (.d (.int u)) j) (hb : E m Y σ W j b (.d (.int v)) k) :
    E m Y σ W i (.BinOp a op b pos) (.d (.int (g u v))) k := fun U h1 r Q q =>
  ⟨_, fun a => pe_op (ho _) (wE_ok a) (wE_ok a), ha U h1 r _ fun v1 T1 l1 r1 p1 => hb T1 (h1.trans l1) r1 _ fun v2 T2 l2 r2 p2 =>
    ⟨u, v, p1.int, p2.int, q _ T2 (l1.trans l2) r2 (Dp.int _)⟩⟩
section
variable {u v : Int}
theorem e_add (ha : E m Y σ W i a (.d (.int u)) j) (hb : E m Y σ W j b (.d (.int v)) k) : E m Y σ W i (.BinOp a .Add b pos) (.d (.int (u + v))) k := e_int20 (fun _ => op_add) ha hb
theorem e_sub (ha : E m Y σ W i a (.d (.int u)) j) (hb : E m Y σ W j b (.d (.int v)) k) : E m Y σ W i (.BinOp a .Sub b pos) (.d (.int (u - v))) k := e_int20 (fun _ => op_sub) ha hb
theorem e_mul (ha : E m Y σ W i a (.d (.int u)) j) (hb : E m Y σ W j b (.d (.int v)) k) (hc : CMul u v) : E m Y σ W i (.BinOp a .Mult b pos) (.d (.int (u * v))) k := e_int2 (fun _ => op_mul) ha hb hc
theorem e_mod (ha : E m Y σ W i a (.d (.int u)) j) (hb : E m Y σ W j b (.d (.int v)) k) (hc : 0 < v) : E m Y σ W i (.BinOp a .Mod b pos) (.d (.int (u % v))) k := e_int2 (fun _ => op_mod) ha hb hc
theorem e_fdiv (ha : E m Y σ W i a (.d (.int u)) j) (hb : E m Y σ W j b (.d (.int v)) k) (hc : CDiv u v) : E m Y σ W i (.BinOp a .FloorDiv b pos) (.d (.int (u / v))) k := e_int2 (fun _ => op_fdiv) ha hb hc
theorem e_pow (ha : E m Y σ W i a (.d (.int u)) j) (hb : E m Y σ W j b (.d (.int v)) k) (hc : CPow u v) : E m Y σ W i (.BinOp a .Pow b pos) (.d (.int (u ^ v.toNat))) k := e_int2 (fun _ => op_pow) ha hb hc
theorem c_cmp2 {op : CmpOp} {g : Int → Int → Bool} (ho : ∀ X : Cx, OpR X (compareOp op) (rI0 fun i j => .bl (g i j))) (hm : behindInMarks op b = false) (ha : E m Y σ W i a (.d (.int u)) j) (hb : E m Y σ W j b (.d (.int v)) k) :
    EC m Y σ W i (.Compare a [op] [b] pos) (g u v) k := fun U h1 r Q q =>
  ⟨_, fun a => cmpR (ho _) (wE_ok a) (wE_ok a) hm, ha U h1 r _ fun v1 T1 l1 r1 p1 => hb T1 (h1.trans l1) r1 _ fun v2 T2 l2 r2 p2 =>
    ⟨u, v, p1.int, p2.int, q _ T2 (l1.trans l2) r2 (Dp.bl _)⟩⟩
theorem c_lt (ha : E m Y σ W i a (.d (.int u)) j) (hb : E m Y σ W j b (.d (.int v)) k) : EC m Y σ W i (.Compare a [.Lt] [b] pos) (decide (u < v)) k := c_cmp2 (fun _ => op_lt) (nomark _) ha hb
theorem c_leq (ha : E m Y σ W i a (.d (.int u)) j) (hb : E m Y σ W j b (.d (.int v)) k) : EC m Y σ W i (.Compare a [.LtE] [b] pos) (decide (u ≤ v)) k := c_cmp2 (fun _ => op_le) (nomark _) ha hb
theorem c_gt (ha : E m Y σ W i a (.d (.int u)) j) (hb : E m Y σ W j b (.d (.int v)) k) : EC m Y σ W i (.Compare a [.Gt] [b] pos) (decide (v < u)) k := c_cmp2 (fun _ => op_gt) (nomark _) ha hb
theorem c_ge (ha : E m Y σ W i a (.d (.int u)) j) (hb : E m Y σ W j b (.d (.int v)) k) : EC m Y σ W i (.Compare a [.GtE] [b] pos) (decide (v ≤ u)) k := c_cmp2 (fun _ => op_ge) (nomark _) ha hb
theorem c_eqi (ha : E m Y σ W i a (.d (.int u)) j) (hb : E m Y σ W j b (.d (.int v)) k) : EC m Y σ W i (.Compare a [.Eq] [b] pos) (decide (u = v)) k := fun U h1 r Q q =>
  ⟨_, fun a => cmpR op_eq (wE_ok a) (wE_ok a) (nomark _), ha U h1 r _ fun v1 T1 l1 r1 p1 => hb T1 (h1.trans l1) r1 _ fun v2 T2 l2 r2 p2 => by
    rw [p1.int, p2.int]
    refine ⟨rfl, ?_⟩
    rw [dec_int, Bool.beq_eq_decide_eq]
    exact q _ T2 (l1.trans l2) r2 (Dp.bl _)⟩
theorem c_nei (ha : E m Y σ W i a (.d (.int u)) j) (hb : E m Y σ W j b (.d (.int v)) k) : EC m Y σ W i (.Compare a [.NotEq] [b] pos) (!decide (u = v)) k := fun U h1 r Q q =>
  ⟨_, fun a => cmpR op_ne (wE_ok a) (wE_ok a) (nomark _), ha U h1 r _ fun v1 T1 l1 r1 p1 => hb T1 (h1.trans l1) r1 _ fun v2 T2 l2 r2 p2 => by
    rw [p1.int, p2.int]
    refine ⟨rfl, ?_⟩
    rw [dec_int, Bool.beq_eq_decide_eq]
    exact q _ T2 (l1.trans l2) r2 (Dp.bl _)⟩
end
end
end Pv
set_option Elab.async false
set_option linter.all false
set_option maxRecDepth 100000
set_option maxHeartbeats 2000000
namespace Pv
open PySem PySem.Spec PyProof.Rows L2
section
variable {m : Mode} {Y : Fam} {σ : L2.St} {W W' : Wd} {i j k l : m.ι} {e a b c : Expr} {es rest : List Expr} {pos p : Pos} {x y z : Sv} {d d' : PD} {ds : List PD} {u v : Bool}
/-! ### tests -/
theorem et_val (h : E m Y σ W i e (.d (.bool u)) j) (he : ∀ a, ∀ whole, isTrue e (Y.X a).env whole = (do let v ← whole; standAt e.pos; holding [v] (truthy v)) := by intro _ _; rfl) : ET m Y σ W i e u j := fun U h1 r Q q =>
  ⟨_, fun a => pt_val (wE_ok a) (he a), h U h1 r _ fun v T l1 r1 p1 => ⟨u, p1.bl, q T l1 r1⟩⟩
theorem et_not (h : ET m Y σ W i e u j) : ET m Y σ W i (.UnaryOp .Not e pos) (!u) j := fun U h1 r Q q =>
  ⟨_, fun a => pt_not (wT_ok a), h U h1 r _ fun T l1 r1 => q T l1 r1⟩
theorem et_w (h : EW m Y σ W i e u j) : ET m Y σ W i e u j := fun U h1 r Q q =>
  ⟨_, fun a => (wW_ok a).pt, h U h1 r _ q⟩
theorem ew_and1 (h : ET m Y σ W i a u j) : EW m Y σ W i (.BoolOp .And [a] pos) u j := fun U h1 r Q q => ⟨_, fun a => pw_and1 (wT_ok a), h U h1 r _ q⟩
theorem ew_or1 (h : ET m Y σ W i a u j) : EW m Y σ W i (.BoolOp .Or [a] pos) u j := fun U h1 r Q q => ⟨_, fun a => pw_or1 (wT_ok a), h U h1 r _ q⟩
theorem ew_and (h : ET m Y σ W i a u j) (h2 : u = true → EW m Y σ W j (.BoolOp .And (b :: rest) pos) v j) : EW m Y σ W i (.BoolOp .And (a :: b :: rest) pos) (u && v) j := fun U h1 r Q q =>
  ⟨_, fun a => pw_and (wT_ok a) (wW_ok a), h U h1 r _ fun T l1 r1 => by
    cases u with
    | false => exact q T l1 r1
    | true => exact h2 rfl T (h1.trans l1) r1 _ fun T2 l2 r2 => q T2 (l1.trans l2) r2⟩
theorem ew_or (h : ET m Y σ W i a u j) (h2 : u = false → EW m Y σ W j (.BoolOp .Or (b :: rest) pos) v j) : EW m Y σ W i (.BoolOp .Or (a :: b :: rest) pos) (u || v) j := fun U h1 r Q q =>
  ⟨_, fun a => pw_or (wT_ok a) (wW_ok a), h U h1 r _ fun T l1 r1 => by
    cases u with
    | true => exact q T l1 r1
    | false => exact h2 rfl T (h1.trans l1) r1 _ fun T2 l2 r2 => q T2 (l1.trans l2) r2⟩
/-! ### and, or, not, if as values (bools) -/
theorem e_one {op : BoolOp} (h : E m Y σ W i a x j) : E m Y σ W i (.BoolOp op [a] pos) x j := fun U h1 r Q q => ⟨_, fun a => pe_one (wE_ok a), h U h1 r _ q⟩
theorem e_and (h : E m Y σ W i a (.d (.bool u)) j) (h2 : u = true → E m Y σ W j (.BoolOp .And (b :: rest) pos) (.d (.bool v)) j) : E m Y σ W i (.BoolOp .And (a :: b :: rest) pos) (.d (.bool (u && v))) j := fun U h1 r Q q =>
  ⟨_, fun a => pe_and (wE_ok a) (wE_ok a), h U h1 r _ fun v1 T l1 r1 p1 => ⟨u, p1.bl, by
    cases u with
    | false => exact q _ T l1 r1 (Dp.bl _)
    | true => exact h2 rfl T (h1.trans l1) r1 _ fun v2 T2 l2 r2 p2 => q v2 T2 (l1.trans l2) r2 p2⟩⟩
theorem e_or (h : E m Y σ W i a (.d (.bool u)) j) (h2 : u = false → E m Y σ W j (.BoolOp .Or (b :: rest) pos) (.d (.bool v)) j) : E m Y σ W i (.BoolOp .Or (a :: b :: rest) pos) (.d (.bool (u || v))) j := fun U h1 r Q q =>
  ⟨_, fun a => pe_or (wE_ok a) (wE_ok a), h U h1 r _ fun v1 T l1 r1 p1 => ⟨u, p1.bl, by
    cases u with
    | true => exact q _ T l1 r1 (Dp.bl _)
    | false => exact h2 rfl T (h1.trans l1) r1 _ fun v2 T2 l2 r2 p2 => q v2 T2 (l1.trans l2) r2 p2⟩⟩
theorem e_not (h : E m Y σ W i a (.d (.bool u)) j) : E m Y σ W i (.UnaryOp .Not a pos) (.d (.bool (!u))) j := fun U h1 r Q q =>
  ⟨_, fun a => pe_not (wE_ok a), h U h1 r _ fun v1 T l1 r1 p1 => ⟨u, p1.bl, q _ T l1 r1 (Dp.bl _)⟩⟩
theorem e_if (h : ET m Y σ W i c u j) (ha : u = true → E m Y σ W j a x j) (hb : u = false → E m Y σ W j b x j) : E m Y σ W i (.IfExp c a b pos) x j := fun U h1 r Q q =>
  ⟨_, fun a => pe_ifExp (wT_ok a) (wE_ok a) (wE_ok a), h U h1 r _ fun T l1 r1 => by
    cases u with
    | true => exact ha rfl T (h1.trans l1) r1 _ fun v2 T2 l2 r2 p2 => q v2 T2 (l1.trans l2) r2 p2
    | false => exact hb rfl T (h1.trans l1) r1 _ fun v2 T2 l2 r2 p2 => q v2 T2 (l1.trans l2) r2 p2⟩
theorem e_un {f : Int → Int} {n : Int} {op : UnaryOp} (ho : ∀ X : Cx, UnR X (unaryOp op) (rU fun i => .int (f i))) (h : E m Y σ W i a (.d (.int n)) j) : E m Y σ W i (.UnaryOp op a pos) (.d (.int (f n))) j := fun U h1 r Q q =>
  ⟨_, fun a => pe_un (ho _) (wE_ok a), h U h1 r _ fun v1 T l1 r1 p1 => ⟨n, p1.int, q _ T l1 r1 (Dp.int _)⟩⟩
theorem e_neg {n : Int} (h : E m Y σ W i a (.d (.int n)) j) : E m Y σ W i (.UnaryOp .USub a pos) (.d (.int (-n))) j := e_un (fun _ => un_neg) h
/-! ### is None, == of data -/
def isNoneD : PD → Bool
  | .none => true
  | _ => false
theorem dp_none {K : PySem.W.Frag} {F : Hp} {v : V} {d : PD} (h : Dp K F v d) : decide (v = .non) = isNoneD d := by
  cases h <;> simp [isNoneD]
theorem c_isN {q : Nat} {p' : Pos} (h : E m Y σ W i a (.d d) j) : EC m Y σ W i (.Compare a [.Is] [.Constant .none q p'] pos) (isNoneD d) j := fun U h1 r Q k =>
  ⟨_, fun a => cmpC (pc_isN (wE_ok a)), h U h1 r _ fun v T l1 r1 p1 => by
    rw [dp_none p1]
    exact k _ T l1 r1 (Dp.bl _)⟩
theorem c_notN {q : Nat} {p' : Pos} (h : E m Y σ W i a (.d d) j) : EC m Y σ W i (.Compare a [.IsNot] [.Constant .none q p'] pos) (!isNoneD d) j := fun U h1 r Q k =>
  ⟨_, fun a => cmpC (pc_notN (wE_ok a)), h U h1 r _ fun v T l1 r1 p1 => by
    rw [dp_none p1]
    exact k _ T l1 r1 (Dp.bl _)⟩
theorem Fam.units (Y : Fam) (a : Y.α) : (Y.X a).A.units + 64 < cLine := (Y.hr a).r.units
theorem c_eqd (ha : E m Y σ W i a (.d d) j) (hb : E m Y σ W j b (.d d') k) (h1 : SeqAt.shaped d = true) (h2 : SeqAt.shaped d' = true) : EC m Y σ W i (.Compare a [.Eq] [b] pos) (PyData.eqv d d') k := fun U l r Q q =>
  ⟨tOp (rEqD Y.K) _ _, fun a => cmpR (by have h := op_eqD (X := Y.X a) (Y.units a); rw [Y.hK a] at h; exact h) (wE_ok a) (wE_ok a) (nomark _), ha U l r _ fun v1 T1 l1 r1 p1 => hb T1 (l.trans l1) r1 _ fun v2 T2 l2 r2 p2 =>
    ⟨d, d', dp_sub T2 (Dp.mono l2.f p1), dp_sub T2 p2, h1, h2, q _ T2 (l1.trans l2) r2 (Dp.bl _)⟩⟩
theorem c_ned (ha : E m Y σ W i a (.d d) j) (hb : E m Y σ W j b (.d d') k) (h1 : SeqAt.shaped d = true) (h2 : SeqAt.shaped d' = true) : EC m Y σ W i (.Compare a [.NotEq] [b] pos) (!PyData.eqv d d') k := fun U l r Q q =>
  ⟨tOp (rNeD Y.K) _ _, fun a => cmpR (by have h := op_neD (X := Y.X a) (Y.units a); rw [Y.hK a] at h; exact h) (wE_ok a) (wE_ok a) (nomark _), ha U l r _ fun v1 T1 l1 r1 p1 => hb T1 (l.trans l1) r1 _ fun v2 T2 l2 r2 p2 =>
    ⟨d, d', dp_sub T2 (Dp.mono l2.f p1), dp_sub T2 p2, h1, h2, q _ T2 (l1.trans l2) r2 (Dp.bl _)⟩⟩
/-! ### arguments, displays -/
theorem ea_nil : EA m Y σ W i [] [] i := fun U _ r Q q => ⟨tNil, fun _ => pa_nil, q [] U (Le.refl U) r .nil⟩
theorem ea_cons {xs : List Sv} (ha : E m Y σ W i e x j) (hb : EA m Y σ W j es xs k) (hs : ∀ a, starEach (e :: es) (Y.X a).env = (false, eval e (Y.X a).env) :: starEach es (Y.X a).env := by intro _; rfl) : EA m Y σ W i (e :: es) (x :: xs) k := fun U h1 r Q q =>
  ⟨_, fun a => pa_cons (wE_ok a) (wA_ok a) (hs a), ha U h1 r _ fun v T1 l1 r1 p1 => hb T1 (h1.trans l1) r1 _ fun vs T2 l2 r2 p2 => q (v :: vs) T2 (l1.trans l2) r2 (.cons (p1.le l2) p2)⟩
def EAd (m : Mode) (Y : Fam) (σ : L2.St) (W : Wd) (i : m.ι) (es : List Expr) (ds : List PD) (j : m.ι) : Prop := EA m Y σ W i es (ds.map Sv.d) j
theorem ed_nil : EAd m Y σ W i [] [] i := ea_nil
theorem ed_cons (ha : E m Y σ W i e (.d d) j) (hb : EAd m Y σ W j es ds k) (hs : ∀ a, starEach (e :: es) (Y.X a).env = (false, eval e (Y.X a).env) :: starEach es (Y.X a).env := by intro _; rfl) : EAd m Y σ W i (e :: es) (d :: ds) k := ea_cons ha hb hs
theorem small5 {n : Nat} (h : n ≤ 100000) : n ≤ sizeLine := Evl.sz_of h
theorem e_tup {q : Nat} (h : EAd m Y σ W i es ds j) (hl : ds.length ≤ 100000 := by exact Nat.le_of_ble_eq_true rfl) : E m Y σ W i (.Tuple es q pos) (.d (.tuple ds)) j := fun U h1 r Q k =>
  ⟨_, fun a => pe_tup (wA_ok a), h U h1 r _ fun vs T l1 r1 p1 => by
    have p2 := p1.ds
    refine ⟨small5 (by rw [p2.len]; exact hl), fun p hp => ?_⟩
    exact k (.ref p) (T.frz p _ hp) (l1.trans (Le.frz hp)) (m.le0 r1 (Le.frz hp)) (Dp.tup (SqT.of upd_same) (p2.mono (upd_none (T.fnone hp))))⟩
theorem el_lst (h : EAd m Y σ W i es ds j) (hl : ds.length ≤ 100000 := by exact Nat.le_of_ble_eq_true rfl) : EL m Y σ W i (.List es pos) ds j := fun U h1 r Q k =>
  ⟨_, fun a => pe_lst (wA_ok a), h U h1 r _ fun vs T l1 r1 p1 => by
    have p2 := p1.ds
    refine ⟨small5 (by rw [p2.len]; exact hl), fun p hp => ?_⟩
    refine k (.ref p) (T.own p _ hp) (l1.trans (Le.own hp)) (m.le0 r1 (Le.own hp)) ⟨p, vs, rfl, ?_, T.fnone hp, upd_same, p2⟩
    cases q : U.H p with
    | none => rfl
    | some o => exact absurd hp (l1.k p (by rw [q]; exact fun z => nomatch z))⟩
theorem Le.back {M : Addr → Prop} {U T : Wd} {p : Addr} (h : Le M U T) (hp : T.H p = none) : U.H p = none := by
  cases q : U.H p with
  | none => rfl
  | some o => exact absurd hp (h.k p (by rw [q]; exact fun z => nomatch z))
/-! ### items -/
theorem dpAt {K : PySem.W.Frag} {F : Hp} {vs : List V} {n : Int} (h : DpAll K F vs ds) (e : atI ds n = some d) : ∃ v, atI vs n = some v ∧ Dp K F v d := by
  unfold atI at e ⊢
  rw [h.len]
  cases q : ixN ds.length n with
  | none =>
    rw [q] at e
    cases e
  | some j =>
    rw [q] at e
    exact h.get' (show ds[j]? = some d from e)
theorem e_ixt {n : Int} (ha : E m Y σ W i a (.d (.tuple ds)) j) (hb : E m Y σ W j b (.d (.int n)) k) (h : atI ds n = some d) (hs : PlainIx b := by intro _ _; rfl) : E m Y σ W i (.Subscript a b pos) (.d d) k := fun U l r Q q =>
  ⟨tOp (rIxT Y.K) _ _, fun a => pe_ix (by have h := ix_tup (X := Y.X a); rw [Y.hK a] at h; exact h) (wE_ok a) (wE_ok a) hs, ha U l r _ fun v1 T1 l1 r1 p1 => hb T1 (l.trans l1) r1 _ fun v2 T2 l2 r2 p2 => by
    obtain ⟨p, vs, e1, e2, e3⟩ := Is.tup p1
    obtain ⟨v, e4, e5⟩ := dpAt e3 h
    exact ⟨p, vs, n, v, e1, p2.int, sqT_sub T2 (Evl.ex_t l2.f e2), e4, q v T2 (l1.trans l2) r2 (Dp.mono l2.f e5)⟩⟩
theorem e_ixl {n : Int} (ha : E m Y σ W i a (.d (.list ds)) j) (hb : E m Y σ W j b (.d (.int n)) k) (h : atI ds n = some d) (hs : PlainIx b := by intro _ _; rfl) : E m Y σ W i (.Subscript a b pos) (.d d) k := fun U l r Q q =>
  ⟨tOp (rIxL Y.K) _ _, fun a => pe_ix (by have h := ix_list (X := Y.X a); rw [Y.hK a] at h; exact h) (wE_ok a) (wE_ok a) hs, ha U l r _ fun v1 T1 l1 r1 p1 => hb T1 (l.trans l1) r1 _ fun v2 T2 l2 r2 p2 => by
    obtain ⟨p, vs, e1, e2, e3⟩ := Is.lst p1
    obtain ⟨v, e4, e5⟩ := dpAt e3 h
    exact ⟨p, vs, n, v, e1, p2.int, sqL_sub T2 (Evl.ex_l l2.f e2), e4, q v T2 (l1.trans l2) r2 (Dp.mono l2.f e5)⟩⟩
/-! ### built-ins -/
abbrev CRd := List V → Hp → VK → Prop
def RC (K : PySem.W.Frag) (r : CRd) (xs : List Sv) (y : Sv) : Prop := ∀ (T : Wd) (vs : List V) (Q : VK), AllIs K T.F vs xs → (∀ v T', Le M0 T T' → Is K T'.F v y → Q v T'.H) → r vs T.H Q
def RCL (K : PySem.W.Frag) (r : CRd) (xs : List Sv) (ds : List PD) : Prop := ∀ (T : Wd) (vs : List V) (Q : VK), AllIs K T.F vs xs →
  (∀ p us T', Le M0 T T' → T.H p = none → T'.F p = none → T'.H p = some (.lst us) → DpAll K T'.F us ds → Q (.ref p) T'.H) → r vs T.H Q
structure BI (Y : Fam) (s : Str) (f : Value) : Prop where
  g : Gb Y s
  m : Y.mg s = none
  v : bootBuiltins s = some f
theorem e_cb {xs : List Sv} {id : String} {s : Str} {r : CRd} (B : BI Y s (.builtin id)) (hc : ∀ a, CallR (Y.X a) (.builtin id) r) (ha : EA m Y σ W i (e :: es) xs j) (hq : RC Y.K r xs y)
    (hn : s ≠ "__name__" := by decide) (hdb : (s == ("__debug__" : Str)) = false := by decide)
    (he : ∀ a, starEach (e :: es) (Y.X a).env = (false, eval e (Y.X a).env) :: starEach es (Y.X a).env := by intro _; rfl) (hpl : ∀ a, (backTo pos (starEach es (Y.X a).env)).any (·.1) = false := by intro _; rfl) :
    E m Y σ W i (.Call (.Name s p) (e :: es) [] pos) y j := fun U h1 r Q k =>
  ⟨_, fun a => pe_callB (hc a) (B.g.gl a) (by rw [Y.hmg]; exact B.m) B.v (wA_ok a) hn hdb (he a) (hpl a), ha U h1 r _ fun vs T l1 r1 p1 => hq T vs Q p1 fun v T' l2 p2 => k v T' (l1.trans l2.of0) (m.le0 r1 l2) p2⟩
theorem e_ct {xs : List Sv} {id : String} {s : Str} {r : CRd} (B : BI Y s (.type id)) (hc : ∀ a, CallR (Y.X a) (.type id) r) (ha : EA m Y σ W i (e :: es) xs j) (hq : RC Y.K r xs y)
    (hn : s ≠ "__name__" := by decide) (hdb : (s == ("__debug__" : Str)) = false := by decide)
    (he : ∀ a, starEach (e :: es) (Y.X a).env = (false, eval e (Y.X a).env) :: starEach es (Y.X a).env := by intro _; rfl) (hpl : ∀ a, (backTo pos (starEach es (Y.X a).env)).any (·.1) = false := by intro _; rfl) :
    E m Y σ W i (.Call (.Name s p) (e :: es) [] pos) y j := fun U h1 r Q k =>
  ⟨_, fun a => pe_callTy (hc a) (B.g.gl a) (by rw [Y.hmg]; exact B.m) B.v (wA_ok a) hn hdb (he a) (hpl a), ha U h1 r _ fun vs T l1 r1 p1 => hq T vs Q p1 fun v T' l2 p2 => k v T' (l1.trans l2.of0) (m.le0 r1 l2) p2⟩
theorem el_cb {xs : List Sv} {id : String} {s : Str} {r : CRd} (B : BI Y s (.builtin id)) (hc : ∀ a, CallR (Y.X a) (.builtin id) r) (ha : EA m Y σ W i (e :: es) xs j) (hq : RCL Y.K r xs ds)
    (hn : s ≠ "__name__" := by decide) (hdb : (s == ("__debug__" : Str)) = false := by decide)
    (he : ∀ a, starEach (e :: es) (Y.X a).env = (false, eval e (Y.X a).env) :: starEach es (Y.X a).env := by intro _; rfl) (hpl : ∀ a, (backTo pos (starEach es (Y.X a).env)).any (·.1) = false := by intro _; rfl) :
    EL m Y σ W i (.Call (.Name s p) (e :: es) [] pos) ds j := fun U h1 r Q k =>
  ⟨_, fun a => pe_callB (hc a) (B.g.gl a) (by rw [Y.hmg]; exact B.m) B.v (wA_ok a) hn hdb (he a) (hpl a), ha U h1 r _ fun vs T l1 r1 p1 => hq T vs Q p1 fun p us T' l2 q1 q2 q3 q4 => k (.ref p) T' (l1.trans l2.of0) (m.le0 r1 l2) ⟨p, us, rfl, l1.back q1, q2, q3, q4⟩⟩
theorem el_ct {xs : List Sv} {id : String} {s : Str} {r : CRd} (B : BI Y s (.type id)) (hc : ∀ a, CallR (Y.X a) (.type id) r) (ha : EA m Y σ W i (e :: es) xs j) (hq : RCL Y.K r xs ds)
    (hn : s ≠ "__name__" := by decide) (hdb : (s == ("__debug__" : Str)) = false := by decide)
    (he : ∀ a, starEach (e :: es) (Y.X a).env = (false, eval e (Y.X a).env) :: starEach es (Y.X a).env := by intro _; rfl) (hpl : ∀ a, (backTo pos (starEach es (Y.X a).env)).any (·.1) = false := by intro _; rfl) :
    EL m Y σ W i (.Call (.Name s p) (e :: es) [] pos) ds j := fun U h1 r Q k =>
  ⟨_, fun a => pe_callTy (hc a) (B.g.gl a) (by rw [Y.hmg]; exact B.m) B.v (wA_ok a) hn hdb (he a) (hpl a), ha U h1 r _ fun vs T l1 r1 p1 => hq T vs Q p1 fun p us T' l2 q1 q2 q3 q4 => k (.ref p) T' (l1.trans l2.of0) (m.le0 r1 l2) ⟨p, us, rfl, l1.back q1, q2, q3, q4⟩⟩
theorem AllIs.inv1 {K : PySem.W.Frag} {F : Hp} {vs : List V} (h : AllIs K F vs [x]) : ∃ v, vs = [v] ∧ Is K F v x := by
  cases h with
  | cons a b =>
    cases b
    exact ⟨_, rfl, a⟩
theorem AllIs.inv2 {K : PySem.W.Frag} {F : Hp} {vs : List V} (h : AllIs K F vs [x, y]) : ∃ v w, vs = [v, w] ∧ Is K F v x ∧ Is K F w y := by
  cases h with
  | cons a b =>
    obtain ⟨w, e, q⟩ := AllIs.inv1 b
    subst e
    exact ⟨_, _, rfl, a, q⟩
theorem AllIs.inv3 {K : PySem.W.Frag} {F : Hp} {vs : List V} (h : AllIs K F vs [x, y, z]) : ∃ v w u, vs = [v, w, u] ∧ Is K F v x ∧ Is K F w y ∧ Is K F u z := by
  cases h with
  | cons a b =>
    obtain ⟨w, u, e, q1, q2⟩ := AllIs.inv2 b
    subst e
    exact ⟨_, _, _, rfl, a, q1, q2⟩
abbrev rLenS (K : PySem.W.Frag) : CRd := fun xs H Q => ∃ p ys, xs = [.ref p] ∧ (SqL K H p ys ∨ SqT K H p ys) ∧ Q (.int ys.length) H
theorem cLen (a : Y.α) : CallR (Y.X a) (.builtin "len") (rLenS Y.K) := by
  have h := call_len_seq (X := Y.X a)
  rw [Y.hK a] at h
  exact h
theorem e_lenL (B : BI Y "len" (.builtin "len")) (ha : E m Y σ W i e (.d (.list ds)) j) (he : ∀ a, starEach [e] (Y.X a).env = (false, eval e (Y.X a).env) :: starEach [] (Y.X a).env := by intro _; rfl) :
    E m Y σ W i (.Call (.Name "len" p) [e] [] pos) (.d (.int (ds.length : Int))) j := e_cb B cLen (ea_cons ha ea_nil he) (fun T vs Q h q => by
  obtain ⟨v, rfl, h1⟩ := h.inv1
  obtain ⟨p, us, rfl, e2, e3⟩ := Is.lst h1
  refine ⟨p, us, rfl, .inl (sqL_sub T e2), ?_⟩
  rw [e3.len]
  exact q _ T (Le.refl T) (Dp.int _)) (he := he)
theorem e_lenT (B : BI Y "len" (.builtin "len")) (ha : E m Y σ W i e (.d (.tuple ds)) j) (he : ∀ a, starEach [e] (Y.X a).env = (false, eval e (Y.X a).env) :: starEach [] (Y.X a).env := by intro _; rfl) :
    E m Y σ W i (.Call (.Name "len" p) [e] [] pos) (.d (.int (ds.length : Int))) j := e_cb B cLen (ea_cons ha ea_nil he) (fun T vs Q h q => by
  obtain ⟨v, rfl, h1⟩ := h.inv1
  obtain ⟨p, us, rfl, e2, e3⟩ := Is.tup h1
  refine ⟨p, us, rfl, .inr (sqT_sub T e2), ?_⟩
  rw [e3.len]
  exact q _ T (Le.refl T) (Dp.int _)) (he := he)
abbrev rListS (K : PySem.W.Frag) : CRd := fun xs H Q => ∃ p ys, xs = [.ref p] ∧ (SqL K H p ys ∨ SqT K H p ys) ∧ ∀ l, H l = none → Q (.ref l) (upd H l (.lst ys))
theorem cList (a : Y.α) : CallR (Y.X a) (.type "list") (rListS Y.K) := by
  have h := call_list_of (X := Y.X a)
  rw [Y.hK a] at h
  exact h
theorem el_listL (B : BI Y "list" (.type "list")) (ha : E m Y σ W i e (.d (.list ds)) j) (he : ∀ a, starEach [e] (Y.X a).env = (false, eval e (Y.X a).env) :: starEach [] (Y.X a).env := by intro _; rfl) :
    EL m Y σ W i (.Call (.Name "list" p) [e] [] pos) ds j := el_ct B cList (ea_cons ha ea_nil he) (fun T vs Q h q => by
  obtain ⟨v, rfl, h1⟩ := h.inv1
  obtain ⟨p, us, rfl, e2, e3⟩ := Is.lst h1
  exact ⟨p, us, rfl, .inl (sqL_sub T e2), fun l hl => q l us (T.own l _ hl) (Le.own hl) hl (T.fnone hl) upd_same e3⟩) (he := he)
theorem el_listT (B : BI Y "list" (.type "list")) (ha : E m Y σ W i e (.d (.tuple ds)) j) (he : ∀ a, starEach [e] (Y.X a).env = (false, eval e (Y.X a).env) :: starEach [] (Y.X a).env := by intro _; rfl) :
    EL m Y σ W i (.Call (.Name "list" p) [e] [] pos) ds j := el_ct B cList (ea_cons ha ea_nil he) (fun T vs Q h q => by
  obtain ⟨v, rfl, h1⟩ := h.inv1
  obtain ⟨p, us, rfl, e2, e3⟩ := Is.tup h1
  exact ⟨p, us, rfl, .inr (sqT_sub T e2), fun l hl => q l us (T.own l _ hl) (Le.own hl) hl (T.fnone hl) upd_same e3⟩) (he := he)
abbrev rTupS (K : PySem.W.Frag) : CRd := fun xs H Q => ∃ p ys, xs = [.ref p] ∧ ((SqL K H p ys ∧ ∀ l, H l = none → Q (.ref l) (upd H l (.tup ys))) ∨ (SqT K H p ys ∧ Q (.ref p) H))
theorem cTup (a : Y.α) : CallR (Y.X a) (.type "tuple") (rTupS Y.K) := by
  have h := call_tuple_of (X := Y.X a)
  rw [Y.hK a] at h
  exact h
theorem e_tupL (B : BI Y "tuple" (.type "tuple")) (ha : E m Y σ W i e (.d (.list ds)) j) (he : ∀ a, starEach [e] (Y.X a).env = (false, eval e (Y.X a).env) :: starEach [] (Y.X a).env := by intro _; rfl) :
    E m Y σ W i (.Call (.Name "tuple" p) [e] [] pos) (.d (.tuple ds)) j := e_ct B cTup (ea_cons ha ea_nil he) (fun T vs Q h q => by
  obtain ⟨v, rfl, h1⟩ := h.inv1
  obtain ⟨p, us, rfl, e2, e3⟩ := Is.lst h1
  exact ⟨p, us, rfl, .inl ⟨sqL_sub T e2, fun l hl => q _ (T.frz l _ hl) (Le.frz hl) (Dp.tup (SqT.of upd_same) (e3.mono (upd_none (T.fnone hl))))⟩⟩) (he := he)
theorem e_abs {n : Int} (B : BI Y "abs" (.builtin "abs")) (ha : E m Y σ W i e (.d (.int n)) j) (he : ∀ a, starEach [e] (Y.X a).env = (false, eval e (Y.X a).env) :: starEach [] (Y.X a).env := by intro _; rfl) :
    E m Y σ W i (.Call (.Name "abs" p) [e] [] pos) (.d (.int (if n < 0 then -n else n))) j := e_cb B (fun _ => call_abs) (ea_cons ha ea_nil he) (fun T vs Q h q => by
  obtain ⟨v, rfl, h1⟩ := h.inv1
  exact ⟨n, by rw [h1.int], q _ T (Le.refl T) (Dp.int _)⟩) (he := he)
theorem e_intI {n : Int} (B : BI Y "int" (.type "int")) (ha : E m Y σ W i e (.d (.int n)) j) (he : ∀ a, starEach [e] (Y.X a).env = (false, eval e (Y.X a).env) :: starEach [] (Y.X a).env := by intro _; rfl) :
    E m Y σ W i (.Call (.Name "int" p) [e] [] pos) (.d (.int n)) j := e_ct B (fun _ => call_int1) (ea_cons ha ea_nil he) (fun T vs Q h q => by
  obtain ⟨v, rfl, h1⟩ := h.inv1
  exact .inl ⟨n, by rw [h1.int], q _ T (Le.refl T) (Dp.int _)⟩) (he := he)
theorem e_max2 {n q : Int} (B : BI Y "max" (.builtin "max")) (ha : E m Y σ W i a (.d (.int n)) j) (hb : E m Y σ W j b (.d (.int q)) k) (he : ∀ c, starEach [a, b] (Y.X c).env = (false, eval a (Y.X c).env) :: starEach [b] (Y.X c).env := by intro _; rfl) (he2 : ∀ c, starEach [b] (Y.X c).env = (false, eval b (Y.X c).env) :: starEach [] (Y.X c).env := by intro _; rfl)
    (hpl : ∀ c, (backTo pos (starEach [b] (Y.X c).env)).any (·.1) = false := by intro _; rfl) : E m Y σ W i (.Call (.Name "max" p) [a, b] [] pos) (.d (.int (if q > n then q else n))) k := e_cb B (fun c => call_max2 (Y.hc c)) (ea_cons ha (ea_cons hb ea_nil he2) he) (fun T vs Q h z => by
  obtain ⟨v, w, rfl, h1, h2⟩ := h.inv2
  exact ⟨n, q, by rw [h1.int, h2.int], z _ T (Le.refl T) (Dp.int _)⟩) (he := he) (hpl := hpl)
theorem e_min2 {n q : Int} (B : BI Y "min" (.builtin "min")) (ha : E m Y σ W i a (.d (.int n)) j) (hb : E m Y σ W j b (.d (.int q)) k) (he : ∀ c, starEach [a, b] (Y.X c).env = (false, eval a (Y.X c).env) :: starEach [b] (Y.X c).env := by intro _; rfl) (he2 : ∀ c, starEach [b] (Y.X c).env = (false, eval b (Y.X c).env) :: starEach [] (Y.X c).env := by intro _; rfl)
    (hpl : ∀ c, (backTo pos (starEach [b] (Y.X c).env)).any (·.1) = false := by intro _; rfl) : E m Y σ W i (.Call (.Name "min" p) [a, b] [] pos) (.d (.int (if q < n then q else n))) k := e_cb B (fun c => call_min2 (Y.hc c)) (ea_cons ha (ea_cons hb ea_nil he2) he) (fun T vs Q h z => by
  obtain ⟨v, w, rfl, h1, h2⟩ := h.inv2
  exact ⟨n, q, by rw [h1.int, h2.int], z _ T (Le.refl T) (Dp.int _)⟩) (he := he) (hpl := hpl)
theorem cAll (a : Y.α) : CallR (Y.X a) (.builtin "all") (rAll Y.K) := by
  have h := cr_all (X := Y.X a) (Y.hc a)
  rw [Y.hK a] at h
  exact h
theorem cAny (a : Y.α) : CallR (Y.X a) (.builtin "any") (rAny Y.K) := by
  have h := cr_any (X := Y.X a) (Y.hc a)
  rw [Y.hK a] at h
  exact h
theorem e_all {bs : List Bool} (B : BI Y "all" (.builtin "all")) (ha : E m Y σ W i e (.d (.list (bs.map .bool))) j) (he : ∀ a, starEach [e] (Y.X a).env = (false, eval e (Y.X a).env) :: starEach [] (Y.X a).env := by intro _; rfl) :
    E m Y σ W i (.Call (.Name "all" p) [e] [] pos) (.d (.bool (bs.all id))) j := e_cb B cAll (ea_cons ha ea_nil he) (fun T vs Q h q => by
  obtain ⟨v, rfl, h1⟩ := h.inv1
  obtain ⟨p, us, rfl, e2, e3⟩ := Is.lst h1
  refine ⟨p, bs, rfl, ?_, q _ T (Le.refl T) (Dp.bl _)⟩
  rw [← e3.bls]
  exact sqL_sub T e2) (he := he)
theorem e_any {bs : List Bool} (B : BI Y "any" (.builtin "any")) (ha : E m Y σ W i e (.d (.list (bs.map .bool))) j) (he : ∀ a, starEach [e] (Y.X a).env = (false, eval e (Y.X a).env) :: starEach [] (Y.X a).env := by intro _; rfl) :
    E m Y σ W i (.Call (.Name "any" p) [e] [] pos) (.d (.bool (bs.any id))) j := e_cb B cAny (ea_cons ha ea_nil he) (fun T vs Q h q => by
  obtain ⟨v, rfl, h1⟩ := h.inv1
  obtain ⟨p, us, rfl, e2, e3⟩ := Is.lst h1
  refine ⟨p, bs, rfl, ?_, q _ T (Le.refl T) (Dp.bl _)⟩
  rw [← e3.bls]
  exact sqL_sub T e2) (he := he)
end
end Pv
set_option Elab.async false
set_option linter.all false
set_option maxRecDepth 100000
set_option maxHeartbeats 2000000
namespace Pv
open PySem PySem.Spec PyProof.Rows L2

/-! ### a def: its promise, its call -/
abbrev Spg := List V → Hp → VK → Prop
structure FnG (P : Program) (w : World) (K : PySem.W.Frag) (mg : Str → Option Value) (base : Heap) (k : Nat) (f : Addr) (fd : FuncData) (ps : List Str) (sp : Spg) : Prop where
  len : ∀ vs H Q, sp vs H Q → vs.length = ps.length
  run : ∀ (A : Around) (outer : List Env) (s : Shared) (H : Hp) (args : Args) (us : List Value) (vs : List V) (Q : VK), RoomG k A → Env0 P w K mg base A outer s H → BindsTo s fd args (ps.zip us) → Vals vs us → sp vs H Q →
    codeAny (model P w) A (.call (.ref f) args) (CR CX0 outer P w H s Q E0) s
theorem FnG.mono {P : Program} {w : World} {K : PySem.W.Frag} {mg : Str → Option Value} {base : Heap} {j k : Nat} {f : Addr} {fd : FuncData} {ps : List Str} {sp : Spg} (F : FnG P w K mg base j f fd ps sp) (h : j ≤ k) : FnG P w K mg base k f fd ps sp :=
  ⟨F.len, fun A outer s H args us vs Q r => F.run A outer s H args us vs Q (r.mono h)⟩
abbrev FnD (K : PySem.W.Frag) (x : Str) (st : Stmt) (f : Addr) (fd : FuncData) : Prop := FunD K x x (defArgs st) (defBody st) (defScope st) [] [] f fd
/-- the body's family of contexts (one context) -/
def dFam (P : Program) (w : World) (K : PySem.W.Frag) (mg : Str → Option Value) (base : Heap) (N : List Str) (nd : N.Nodup) (qual : Str) (sc : Scope) (f : Addr) (cdv : Value) (A : Around) (outer : List Env) (s : Shared) (H : Hp) (k : Nat)
    (hr : RoomG k (A.deeper (envOfC qual sc s.heap.objs.size f cdv))) : Fam where
  α := Unit
  X := fun _ => (cxOf CX0 P w K mg base N qual sc f cdv A outer s H E0).nox
  P := P
  w := w
  K := K
  mg := mg
  base := base
  N := N
  sc := sc
  k := k
  hP := fun _ => rfl
  hw := fun _ => rfl
  hK := fun _ => rfl
  hmg := fun _ => rfl
  hbase := fun _ => rfl
  hN := fun _ => rfl
  hsc := fun _ => rfl
  hc := fun _ => rfl
  hr := fun _ => hr
  nd := nd
theorem fnG_of {P : Program} {w : World} {K : PySem.W.Frag} {mg : Str → Option Value} {base : Heap} {x : Str} {st : Stmt} {f : Addr} {fd : FuncData} {N ps : List Str} {k : Nat} {sp : Spg} (F : FnD K x st f fd) (S : FnScope N ps (defScope st))
    (len : ∀ vs H Q, sp vs H Q → vs.length = ps.length)
    (hbody : ∀ (cdv : Value) (A : Around) (outer : List Env) (s : Shared) (H : Hp) (hr : RoomG k (A.deeper (envOfC x (defScope st) s.heap.objs.size f cdv))) (vs : List V) (Q : VK), sp vs H Q →
      wSs (dFam P w K mg base N S.nd x (defScope st) f cdv A outer s H k hr) (defBody st) { nx := fun _ H' => Q .non H', rt := Q } (L2.start N vs) H) : FnG P w K mg base (k + 1) f fd ps sp := by
  obtain ⟨oc, od, dV, kV, doc, pm, an, cdv, ct, osl, rfl, lk, hcd, _, _⟩ := F.ex
  refine ⟨len, fun A outer s H args us vs Q hr e0 hb r h => ?_⟩
  refine LamX.run_ofS lk hcd S hr.r e0 hb r (len vs H Q h) fun hr' => ?_
  have hg : RoomG k (A.deeper (envOfC x (defScope st) s.heap.objs.size f cdv)) := ⟨hr', hr.g⟩
  exact ⟨_, (wSs_ok (Y := dFam P w K mg base N S.nd x (defScope st) f cdv A outer s H k hg) ()).nox, hbody cdv A outer s H hg vs Q h⟩

section
variable {X : Cx} {k : Nat} {f : Addr} {fd : FuncData} {ps : List Str} {sp : Spg} {x : Str} {p pos : Pos} {e : Expr} {es : List Expr} {t : TA}
theorem run_fnG {pins : List (Addr × Obj)} {σ : L2.St} {H : Hp} {s : Shared} {Q : VK} {us us' : List Value} {kw : List (Str × Value)} {vs : List V} (F : FnG X.prog X.w X.K X.mg X.base k f fd ps sp) (hr : RoomG k X.A) (hb : BindsTo s fd ⟨us', kw⟩ (ps.zip us))
    (I : Inv X pins σ H s) (r : Vals vs us) (h : sp vs H Q) : wpAny (model X.prog X.w) X.A (call (.ref f) us' kw) (EP X pins σ Q) X.xe s := by
  refine wpAny_call (codeAny_mono (F.run X.A X.stack s H ⟨us', kw⟩ us vs Q hr I.env0 hb r h) fun r s' hq => ?_)
  cases r with
  | error e => exact (show False from hq).elim
  | ok fl =>
    cases fl with
    | ret u => exact I.after hq
    | next => exact False.elim hq
    | brk => exact False.elim hq
    | cont => exact False.elim hq
theorem pe_callG (F : FnG X.prog X.w X.K X.mg X.base k f fd ps sp) (hr : RoomG k X.A) (hg : Gl X x) (hm : X.mg x = some (.ref f)) (hk : PySem.W.keepIn X.K (.ref f) = true) (hb : Binds X.K fd ps [])
    (ha : PA X (e :: es) t) (hdb : (x == ("__debug__" : Str)) = false) (he : starEach (e :: es) X.env = (false, eval e X.env) :: starEach es X.env) (hpl : (backTo pos (starEach es X.env)).any (·.1) = false) :
    PE X (.Call (.Name x p) (e :: es) [] pos) (fun σ H Q => t σ H fun vs H1 => sp vs H1 Q) := by
  refine ⟨fun pins s σ H Q I h => ?_⟩
  refine wpAny_Call_Name_kw (ld_glob I hg hm ?_ hdb)
  refine PySem.W.callWith_K (h₀ := X.base) I.ok.mod.kin hk ?_ he hpl
  refine thn (ha.run pos pins s σ H _ I h) fun us s1 ⟨vs, H1, I1, r, q⟩ => ⟨I1.kIn, ?_⟩
  have hb1 := hb s1 us I1.kIn (by rw [List.append_nil, ← r.length]; exact F.len _ _ _ q)
  rw [List.append_nil] at hb1
  exact run_fnG F hr hb1 I1 r q
theorem pe_callGK {kws : List Keyword} {ks : List Str} {g : List Value → List Value} {gV : List V → List V} (F : FnG X.prog X.w X.K X.mg X.base k f fd ps sp) (hr : RoomG k X.A) (hg : Gl X x) (hm : X.mg x = some (.ref f)) (hk : PySem.W.keepIn X.K (.ref f) = true)
    (hb : ∀ (s : Shared) (ws : List Value), ws.length = ks.length → BindsTo s fd ⟨[], ks.zip ws⟩ (ps.zip (g ws))) (hrel : ∀ {vs : List V} {us : List Value}, Vals vs us → Vals (gV vs) (g us)) (hkw : PK X kws t)
    (hall : (backToKw pos (keywordEach kws X.env)).all (·.1.isSome) = true) (hks : (backToKw pos (keywordEach kws X.env)).filterMap (·.1) = ks) (hdb : (x == ("__debug__" : Str)) = false)
    (hpl : ((backTo pos (starEach [] X.env)).any (·.1) || (backToKw pos (keywordEach kws X.env)).any (·.1.isNone)) = false) :
    PE X (.Call (.Name x p) [] kws pos) (fun σ H Q => t σ H fun vs H1 => vs.length = ks.length ∧ sp (gV vs) H1 Q) := by
  refine ⟨fun pins s σ H Q I h => ?_⟩
  refine wpAny_Call_Name_kw (ld_glob I hg hm ?_ hdb)
  refine PySem.W.callWith_KW0 (h₀ := X.base) I.ok.mod.kin hk hall ?_ hpl
  refine thn (hkw.run pos pins s σ H _ I h) fun ws s1 ⟨zs, H1, I1, rz, hl, q⟩ => ⟨I1.kIn, ?_⟩
  rw [hks]
  exact run_fnG F hr (hb s1 ws (rz.length.symm.trans hl)) I1 (hrel rz) q
end

/-- the promise of a pure def: data in, data out -/
def pureSp (K : PySem.W.Frag) (R : List Sv → Sv → Prop) : Spg := fun vs H Q => ∃ (W : Wd) (xs : List Sv) (y : Sv), W.H = H ∧ AllIs K W.F vs xs ∧ R xs y ∧ ∀ v T, Le M0 W T → Is K T.F v y → Q v T.H
def pickL {α : Type} (ix : List Nat) (xs : List α) : List α := ix.filterMap fun n => xs[n]?
theorem Vals.pick {vs : List V} {us : List Value} (r : Vals vs us) : ∀ ix : List Nat, Vals (pickL ix vs) (pickL ix us)
  | [] => .nil
  | n :: ix => by
    unfold pickL
    rw [List.filterMap_cons, List.filterMap_cons]
    cases e : vs[n]? with
    | none =>
      rw [r.none_of e]
      exact Vals.pick r ix
    | some v =>
      obtain ⟨u, h1, h2⟩ := r.get e
      rw [h1]
      exact .cons h2 (Vals.pick r ix)
theorem AllIs.get {K : PySem.W.Frag} {F : Hp} : ∀ {vs : List V} {xs : List Sv} (n : Nat), AllIs K F vs xs → (vs[n]? = none ∧ xs[n]? = none) ∨ ∃ v x, vs[n]? = some v ∧ xs[n]? = some x ∧ Is K F v x
  | _, _, _, .nil => .inl ⟨by simp, by simp⟩
  | _, _, 0, .cons a _ => .inr ⟨_, _, by simp, by simp, a⟩
  | _, _, n + 1, .cons _ b => by
    rcases AllIs.get n b with ⟨h1, h2⟩ | ⟨v, x, h1, h2, h3⟩
    · exact .inl ⟨by simpa using h1, by simpa using h2⟩
    · exact .inr ⟨v, x, by simpa using h1, by simpa using h2, h3⟩
theorem AllIs.pick {K : PySem.W.Frag} {F : Hp} {vs : List V} {xs : List Sv} (r : AllIs K F vs xs) : ∀ ix : List Nat, AllIs K F (pickL ix vs) (pickL ix xs)
  | [] => .nil
  | n :: ix => by
    unfold pickL
    rw [List.filterMap_cons, List.filterMap_cons]
    rcases r.get n with ⟨h1, h2⟩ | ⟨v, x, h1, h2, h3⟩
    · rw [h1, h2]
      exact AllIs.pick r ix
    · rw [h1, h2]
      exact .cons h3 (AllIs.pick r ix)

/-- how a def stands in the module -/
structure Def (P : Program) (w : World) (K : PySem.W.Frag) (mg : Str → Option Value) (base : Heap) (s : Str) (k : Nat) (ps : List Str) (sp : Spg) : Prop where
  ex : ∃ (f : Addr) (fd : FuncData), mg s = some (.ref f) ∧ PySem.W.keepIn K (.ref f) = true ∧ Binds K fd ps [] ∧
    (∀ (ks : List Str) (ix : List Nat), (∀ us : List Value, us.length = ks.length → bindArgs fd ⟨[], ks.zip us⟩ = pure (ps.zip (pickL ix us))) → ∀ (s : Shared) (ws : List Value), ws.length = ks.length → BindsTo s fd ⟨[], ks.zip ws⟩ (ps.zip (pickL ix ws))) ∧
    FnG P w K mg base k f fd ps sp

section
variable {m : Mode} {Y : Fam} {σ : L2.St} {W W' : Wd} {i j k l : m.ι} {e a b c : Expr} {es : List Expr} {rest body : List Stmt} {pos p p' : Pos} {x y z : Sv} {d d' : PD} {ds : List PD} {u v : Bool} {D : Ends} {s : Str} {n : Nat}
theorem e_call {q : Nat} {f : Addr} {fd : FuncData} {ps : List Str} {R : List Sv → Sv → Prop} {xs : List Sv} (F : FnG Y.P Y.w Y.K Y.mg Y.base q f fd ps (pureSp Y.K R)) (hq : q ≤ Y.k) (hg : Gb Y s) (hm : Y.mg s = some (.ref f)) (hk : PySem.W.keepIn Y.K (.ref f) = true) (hb : Binds Y.K fd ps [])
    (ha : EA m Y σ W i (e :: es) xs j) (hR : R xs y) (hdb : (s == ("__debug__" : Str)) = false := by decide)
    (he : ∀ a, starEach (e :: es) (Y.X a).env = (false, eval e (Y.X a).env) :: starEach es (Y.X a).env := by intro _; rfl) (hpl : ∀ a, (backTo pos (starEach es (Y.X a).env)).any (·.1) = false := by intro _; rfl) :
    E m Y σ W i (.Call (.Name s p) (e :: es) [] pos) y j := fun U h1 r Q q =>
  ⟨fun σ H Q => wA Y (e :: es) σ H fun vs H1 => pureSp Y.K R vs H1 Q, fun a => pe_callG (by rw [Y.hP, Y.hw, Y.hK, Y.hmg, Y.hbase]; exact F) ((Y.hr a).mono hq) (hg.gl a) (by rw [Y.hmg]; exact hm) (by rw [Y.hK]; exact hk) (by rw [Y.hK]; exact hb) (wA_ok a) hdb (he a) (hpl a),
    ha U h1 r _ fun vs T l1 r1 p1 => ⟨T, xs, y, rfl, p1, hR, fun v T' l2 p2 => q v T' (l1.trans l2.of0) (m.le0 r1 l2) p2⟩⟩
def wK (Y : Fam) (kws : List Keyword) : TA := fun σ H Q => ∃ t : TA, (∀ a, PK (Y.X a) kws t) ∧ t σ H Q
theorem wK_ok {Y : Fam} {kws : List Keyword} (a : Y.α) : PK (Y.X a) kws (wK Y kws) := ⟨fun pos pins s σ H Q I ⟨_, h, q⟩ => (h a).run pos pins s σ H Q I q⟩
def EK (m : Mode) (Y : Fam) (σ : L2.St) (W : Wd) (i : m.ι) (kws : List Keyword) (xs : List Sv) (j : m.ι) : Prop :=
  ∀ U, Le m.M W U → m.R i U → ∀ Q : List V → Hp → Prop, (∀ vs T, Le m.M U T → m.R j T → AllIs Y.K T.F vs xs → Q vs T.H) → wK Y kws σ U.H Q
theorem ek_nil : EK m Y σ W i [] [] i := fun U _ r Q q => ⟨tNil, fun _ => pk_nil, q [] U (Le.refl U) r .nil⟩
theorem ek_cons {xs : List Sv} {nm : Option Str} {kpos : Pos} {kws : List Keyword} (ha : E m Y σ W i e x j) (hb : EK m Y σ W j kws xs k) : EK m Y σ W i (⟨nm, e, kpos⟩ :: kws) (x :: xs) k := fun U h1 r Q q =>
  ⟨_, fun a => pk_cons (wE_ok a) (wK_ok a), ha U h1 r _ fun v T1 l1 r1 p1 => hb T1 (h1.trans l1) r1 _ fun vs T2 l2 r2 p2 => q (v :: vs) T2 (l1.trans l2) r2 (.cons (p1.le l2) p2)⟩
theorem e_callk {q : Nat} {f : Addr} {fd : FuncData} {ps ks : List Str} {R : List Sv → Sv → Prop} {xs : List Sv} {kws : List Keyword} {ix : List Nat} (F : FnG Y.P Y.w Y.K Y.mg Y.base q f fd ps (pureSp Y.K R)) (hq : q ≤ Y.k) (hg : Gb Y s) (hm : Y.mg s = some (.ref f)) (hk : PySem.W.keepIn Y.K (.ref f) = true)
    (hb : ∀ (s : Shared) (ws : List Value), ws.length = ks.length → BindsTo s fd ⟨[], ks.zip ws⟩ (ps.zip (pickL ix ws))) (ha : EK m Y σ W i kws xs j) (hl : xs.length = ks.length) (hR : R (pickL ix xs) y) (hdb : (s == ("__debug__" : Str)) = false := by decide)
    (hall : ∀ a, (backToKw pos (keywordEach kws (Y.X a).env)).all (·.1.isSome) = true := by intro _; rfl) (hks : ∀ a, (backToKw pos (keywordEach kws (Y.X a).env)).filterMap (·.1) = ks := by intro _; rfl)
    (hpl : ∀ a, ((backTo pos (starEach [] (Y.X a).env)).any (·.1) || (backToKw pos (keywordEach kws (Y.X a).env)).any (·.1.isNone)) = false := by intro _; rfl) :
    E m Y σ W i (.Call (.Name s p) [] kws pos) y j := fun U h1 r Q q =>
  ⟨fun σ H Q => wK Y kws σ H fun vs H1 => vs.length = ks.length ∧ pureSp Y.K R (pickL ix vs) H1 Q, fun a => pe_callGK (gV := pickL ix) (g := pickL ix) (by rw [Y.hP, Y.hw, Y.hK, Y.hmg, Y.hbase]; exact F) ((Y.hr a).mono hq) (hg.gl a) (by rw [Y.hmg]; exact hm) (by rw [Y.hK]; exact hk) hb (fun r => Vals.pick r ix) (wK_ok a) (hall a) (hks a) hdb (hpl a),
    ha U h1 r _ fun vs T l1 r1 p1 => ⟨p1.len.trans hl, T, pickL ix xs, y, rfl, p1.pick ix, hR, fun v T' l2 p2 => q v T' (l1.trans l2.of0) (m.le0 r1 l2) p2⟩⟩

/-! ### statements -/
theorem s_nil (h : D.nx σ W.H) : wSs Y [] D σ W.H := ⟨tNext, fun _ => pss_nil, h⟩
theorem s_ret (he : E m Y σ W i e x j) (r : m.R i W) (k : ∀ v T, Le m.M W T → m.R j T → Is Y.K T.F v x → D.rt v T.H) : wSs Y (.Return (some e) p :: rest) D σ W.H :=
  ⟨_, fun a => pss_cons (ps_ret (wE_ok a)) (wSs_ok (ss := rest) a), he W (Le.refl W) r _ k⟩
theorem s_retN (k : D.rt .non W.H) : wSs Y (.Return none p :: rest) D σ W.H := ⟨_, fun a => pss_cons ps_retN (wSs_ok (ss := rest) a), k⟩
theorem s_break (k : D.bk σ W.H) : wSs Y (.Break p :: rest) D σ W.H := ⟨_, fun a => pss_cons ps_break (wSs_ok (ss := rest) a), k⟩
theorem s_cont (k : D.ct σ W.H) : wSs Y (.Continue p :: rest) D σ W.H := ⟨_, fun a => pss_cons ps_continue (wSs_ok (ss := rest) a), k⟩
theorem s_setG {P : Wd → V → Wd → Prop} (he : EG m Y σ W i e P j) (r : m.R i W) (hi : Y.N[n]? = some s) (hx : Loc Y.sc s)
    (k : ∀ v T, Le m.M W T → m.R j T → P W v T → wSs Y rest D (σ.set n (some v)) T.H)
    (hsw : ∀ a, swapsWith e (some (.Name s p')) p.line (Y.X a).env = pure false := by intro _; rfl) (hf : ∀ a, (Y.X a).fn s = true ∨ (Y.X a).env.scope.names.lookup s = some .local := by intro _; first | exact .inl rfl | exact .inr rfl) : wSs Y (.Assign [.Name s p'] e p :: rest) D σ W.H :=
  ⟨_, fun a => pss_cons (ps_set (i := n) (by rw [Y.hN]; exact Y.nd) (by rw [Y.hN]; exact hi) (by rw [Y.hsc]; exact hx) (wE_ok a) (hsw a) (hf a)) (wSs_ok a), he W (Le.refl W) r _ k⟩
theorem s_set (he : E m Y σ W i e x j) (r : m.R i W) (hi : Y.N[n]? = some s) (hx : Loc Y.sc s) (k : ∀ v T, Le m.M W T → m.R j T → Is Y.K T.F v x → wSs Y rest D (σ.set n (some v)) T.H)
    (hsw : ∀ a, swapsWith e (some (.Name s p')) p.line (Y.X a).env = pure false := by intro _; rfl) (hf : ∀ a, (Y.X a).fn s = true ∨ (Y.X a).env.scope.names.lookup s = some .local := by intro _; first | exact .inl rfl | exact .inr rfl) : wSs Y (.Assign [.Name s p'] e p :: rest) D σ W.H :=
  s_setG he r hi hx k hsw hf
theorem s_if (ht : ET m Y σ W i c u j) (r : m.R i W) (h1 : u = true → ∀ T, Le m.M W T → m.R j T → wSs Y body { D with nx := fun σ' H' => wSs Y rest D σ' H' } σ T.H) {els : List Stmt}
    (h2 : u = false → ∀ T, Le m.M W T → m.R j T → wSs Y els { D with nx := fun σ' H' => wSs Y rest D σ' H' } σ T.H) : wSs Y (.If c body els p :: rest) D σ W.H :=
  ⟨_, fun a => pss_cons (ps_if (wT_ok a) (wSs_ok a) (wSs_ok a)) (wSs_ok a), ht W (Le.refl W) r _ fun T l1 r1 => by
    cases u with
    | true => exact h1 rfl T l1 r1
    | false => exact h2 rfl T l1 r1⟩
/-- an if without else -/
theorem s_when (ht : ET m Y σ W i c u j) (r : m.R i W) (h1 : u = true → ∀ T, Le m.M W T → m.R j T → wSs Y body { D with nx := fun σ' H' => wSs Y rest D σ' H' } σ T.H)
    (h2 : u = false → ∀ T, Le m.M W T → m.R j T → wSs Y rest D σ T.H) : wSs Y (.If c body [] p :: rest) D σ W.H :=
  s_if ht r h1 fun hu T l1 r1 => s_nil (h2 hu T l1 r1)
/-- an expression dropped -/
theorem s_exprG {P : Wd → V → Wd → Prop} (he : EG m Y σ W i e P j) (r : m.R i W) (k : ∀ v T, Le m.M W T → m.R j T → P W v T → wSs Y rest D σ T.H) (hs : ∀ a, swapsWith e none p.line (Y.X a).env = pure false := by intro _; rfl) : wSs Y (.Expr e p :: rest) D σ W.H :=
  ⟨_, fun a => pss_cons (ps_expr (wE_ok a) (hs a)) (wSs_ok a), he W (Le.refl W) r _ k⟩
/-! ### targets -/
theorem g_name {Q : L2.St → Hp → Prop} {v : V} {H : Hp} (hi : Y.N[n]? = some s) (hx : Loc Y.sc s) (h : Q (σ.set n (some v)) H) (hf : ∀ a, (Y.X a).fn s = true ∨ (Y.X a).env.scope.names.lookup s = some .local := by intro _; first | exact .inl rfl | exact .inr rfl) : wG Y (.Name s p) v σ H Q :=
  ⟨gName n, fun a => pg_name (by rw [Y.hN]; exact Y.nd) (by rw [Y.hN]; exact hi) (by rw [Y.hsc]; exact hx) (hf a), h⟩
/-- several targets against values -/
def wGs (Y : Fam) (ts : List Expr) : TGs := fun vs σ H Q => ∃ t : TGs, (∀ a, PGs (Y.X a) ts t) ∧ t vs σ H Q
theorem wGs_ok {Y : Fam} {ts : List Expr} (a : Y.α) : PGs (Y.X a) ts (wGs Y ts) := ⟨fun pins s σ H vs us Q I r ⟨_, h, q⟩ => (h a).run pins s σ H vs us Q I r q⟩
theorem gs_nil {Q : L2.St → Hp → Prop} {H : Hp} (h : Q σ H) : wGs Y [] [] σ H Q := ⟨gNil, fun _ => pgs_nil, rfl, h⟩
theorem gs_cons {t : Expr} {ts : List Expr} {Q : L2.St → Hp → Prop} {H : Hp} {v : V} {vs : List V} (h : wG Y t v σ H fun σ' H' => wGs Y ts vs σ' H' Q) (hs : ∀ a, (assignEach (t :: ts) (Y.X a).env).map (·.2) = assign t (Y.X a).env :: (assignEach ts (Y.X a).env).map (·.2) := by intro _; rfl) : wGs Y (t :: ts) (v :: vs) σ H Q :=
  ⟨_, fun a => pgs_cons (wG_ok a) (wGs_ok a) (hs a), v, vs, rfl, h⟩
theorem g_tup {ts : List Expr} {q : Nat} {Q : L2.St → Hp → Prop} {v : V} {a : Addr} {vs : List V} {H : Hp} (hv : v = .ref a) (ht : SqT Y.K H a vs) (h : wGs Y ts vs σ H Q) (hl : vs.length = ts.length)
    (hn : ∀ a, (assignEach ts (Y.X a).env).length = ts.length := by intro _; rfl) (hst : ∀ a, (assignEach ts (Y.X a).env).findIdx? (·.1) = none := by intro _; rfl) : wG Y (.Tuple ts q p) v σ H Q :=
  ⟨gTup Y.K ts.length (wGs Y ts), fun a => by
    have h := pg_tup (pos := p) (k := q) (Y.hc a) (wGs_ok (ts := ts) a) (hn a) (hst a)
    rw [Y.hK a] at h
    exact h, a, vs, hv, ht, hl, h⟩
/-- target = value, the target no single name -/
theorem s_asg {P : Wd → V → Wd → Prop} {tg : Expr} (he : EG m Y σ W i e P j) (r : m.R i W) (k : ∀ v T, Le m.M W T → m.R j T → P W v T → wG Y tg v σ T.H fun σ' H' => wSs Y rest D σ' H')
    (hs : ∀ a, swapsWithSole [tg] e p.line (Y.X a).env = pure false := by intro _; rfl) (hw : ∀ a, swappedStores [tg] e (Y.X a).env = pure none := by intro _; rfl)
    (h1 : ∀ a, (assignEach [tg] (Y.X a).env).map (·.2) = [assign tg (Y.X a).env] := by intro _; rfl) : wSs Y (.Assign [tg] e p :: rest) D σ W.H :=
  ⟨_, fun a => pss_cons (ps_asg (wE_ok a) (wG_ok a) (hs a) (hw a) (h1 a)) (wSs_ok a), he W (Le.refl W) r _ k⟩
/-- arguments by words on the values (for lists not frozen) -/
theorem s_par2 {s1 s2 : Str} {n1 n2 q1 q2 : Nat} {a b : Expr} {px py pt pt2 : Pos} {xs : List Sv} (ha : EA m Y σ W i [a, b] [x, y] j) (r : m.R i W) (hi : Y.N[n1]? = some s1) (hj : Y.N[n2]? = some s2) (hij : n1 ≠ n2)
    (hx : Y.sc.names.lookup s1 = some .local) (hy : Y.sc.names.lookup s2 = some .local) (k : ∀ v1 v2 T, Le m.M W T → m.R j T → Is Y.K T.F v1 x → Is Y.K T.F v2 y → wSs Y rest D ((σ.set n1 (some v1)).set n2 (some v2)) T.H)
    (hw : ∀ c, swappedStores [.Tuple [.Name s1 px, .Name s2 py] q1 pt] (.Tuple [a, b] q2 pt2) (Y.X c).env = pure (some [s1, s2]) := by intro _; rfl)
    (hs : ∀ c, swapsWithSole [.Tuple [.Name s1 px, .Name s2 py] q1 pt] (.Tuple [a, b] q2 pt2) p.line (Y.X c).env = pure false := by intro _; rfl) :
    wSs Y (.Assign [.Tuple [.Name s1 px, .Name s2 py] q1 pt] (.Tuple [a, b] q2 pt2) p :: rest) D σ W.H :=
  ⟨_, fun c => pss_cons (ps_par (Y.hc c) (by rw [Y.hN]; exact Y.nd) (by rw [Y.hN]; exact hi) (by rw [Y.hN]; exact hj) hij (by rw [Y.hsc]; exact hx) (by rw [Y.hsc]; exact hy) (wA_ok c) (hw c) (hs c)) (wSs_ok c),
    ha W (Le.refl W) r _ fun vs T l1 r1 p1 => by
      obtain ⟨v1, v2, rfl, h1, h2⟩ := p1.inv2
      exact ⟨v1, v2, rfl, k v1 v2 T l1 r1 h1 h2⟩⟩
end
end Pv
set_option Elab.async false
set_option linter.all false
set_option maxRecDepth 100000
set_option maxHeartbeats 2000000
namespace Pv
open PySem PySem.Spec PyProof.Rows L2 RZ
/-! ### what is walked -/
def Fl (W V : Wd) : Prop := ∀ a o, W.F a = some o → V.F a = some o
theorem Fl.refl (W : Wd) : Fl W W := fun _ _ h => h
theorem Fl.trans {W V U : Wd} (a : Fl W V) (b : Fl V U) : Fl W U := fun x o h => b x o (a x o h)
theorem Le.fl {M : Addr → Prop} {W V : Wd} (h : Le M W V) : Fl W V := h.f
/-- n items; the k-th one is x, so that it k x holds -/
def ITok (J : It) (n : Nat) (it : Nat → V → Wd → Prop) (T0 : Wd) : Prop :=
  (∀ T, Fl T0 T → J.stop n T.H) ∧ ∀ k, k < n → ∀ T, Fl T0 T → J.go k T.H ∧ ∀ x H', J.yld k T.H x H' → ∃ T', T'.H = H' ∧ Le M0 T T' ∧ it k x T'
def EI (m : Mode) (Y : Fam) (σ : L2.St) (W : Wd) (i : m.ι) (tg iter : Expr) (n : Nat) (it : Nat → V → Wd → Prop) (j : m.ι) : Prop :=
  ∀ U, Le m.M W U → m.R i U → ∀ Z : It → Hp → Prop, (∀ J T, Le m.M U T → m.R j T → ITok J n it T → Z J T.H) → wI Y tg iter σ U.H Z
section
variable {m : Mode} {Y : Fam} {σ : L2.St} {W W' : Wd} {i j k l : m.ι} {e a b c tg iter : Expr} {es : List Expr} {rest body : List Stmt} {pos p p' : Pos} {x y z : Sv} {d d' : PD} {ds : List PD} {u v : Bool} {D : Ends} {s : Str} {n : Nat}
def itL (K : PySem.W.Frag) (ds : List PD) : Nat → V → Wd → Prop := fun k x T => ∃ d, ds[k]? = some d ∧ Dp K T.F x d
theorem ei_list (h : E m Y σ W i e (.d (.list ds)) j) : EI m Y σ W i tg e ds.length (itL Y.K ds) j := fun U h1 r Z q =>
  ⟨iList Y.K (wE Y e), fun a => by
    have h := pi_list (tg := tg) (wE_ok (e := e) a)
    rw [Y.hK a] at h
    exact h, h U h1 r _ fun v T l1 r1 p1 => by
    obtain ⟨a, vs, e1, e2, e3⟩ := Is.lst p1
    subst e1
    refine ⟨a, rfl, ⟨vs, sqL_sub T e2⟩, q _ T l1 r1 ⟨fun T' hf => ⟨vs, sqL_sub T' (Evl.ex_l hf e2), by rw [e3.len]; exact Nat.le_refl _⟩, fun k hk T' hf => ?_⟩⟩
    have sq : SqL Y.K T'.H a vs := sqL_sub T' (Evl.ex_l hf e2)
    have hk' : k < vs.length := by rw [e3.len]; exact hk
    refine ⟨⟨vs, vs[k], sq, by simp [hk']⟩, fun x H' ⟨hH, hx⟩ => ⟨T', hH.symm, Le.refl T', ?_⟩⟩
    obtain ⟨d, h1, h2⟩ := e3.get (hx vs sq)
    exact ⟨d, h1, h2.mono hf⟩⟩
theorem ei_tup (h : E m Y σ W i e (.d (.tuple ds)) j) : EI m Y σ W i tg e ds.length (itL Y.K ds) j := fun U h1 r Z q =>
  ⟨iTup Y.K (wE Y e), fun a => by
    have h := pi_tup (tg := tg) (wE_ok (e := e) a)
    rw [Y.hK a] at h
    exact h, h U h1 r _ fun v T l1 r1 p1 => by
    obtain ⟨a, vs, e1, e2, e3⟩ := Is.tup p1
    subst e1
    refine ⟨a, rfl, ⟨vs, sqT_sub T e2⟩, q _ T l1 r1 ⟨fun T' hf => ⟨vs, sqT_sub T' (Evl.ex_t hf e2), by rw [e3.len]; exact Nat.le_refl _⟩, fun k hk T' hf => ?_⟩⟩
    have sq : SqT Y.K T'.H a vs := sqT_sub T' (Evl.ex_t hf e2)
    have hk' : k < vs.length := by rw [e3.len]; exact hk
    refine ⟨⟨vs, vs[k], sq, by simp [hk']⟩, fun x H' ⟨hH, hx⟩ => ⟨T', hH.symm, Le.refl T', ?_⟩⟩
    obtain ⟨d, h1, h2⟩ := e3.get (hx vs sq)
    exact ⟨d, h1, h2.mono hf⟩⟩
/-- ranges -/
def itR (lo : Int) : Nat → V → Wd → Prop := fun k x _ => x = .int (lo + (k : Int))
theorem ei_range1 {q : Int} (B : BI Y "range" (.type "range")) (ha : E m Y σ W i a (.d (.int q)) j) (h1 : -(2 ^ 62) ≤ q ∧ q < 2 ^ 62) (hs : ∀ c, starEach [a] (Y.X c).env = [(false, eval a (Y.X c).env)] := by intro _; rfl) :
    EI m Y σ W i tg (.Call (.Name "range" p) [a] [] pos) q.toNat (itR 0) j := fun U l r Z k =>
  ⟨iRng1 (wA Y [a]), fun c => pi_range1 (B.g.gl c) (by rw [Y.hmg]; exact B.m) (wA_ok c) (hs c), ea_cons ha ea_nil (fun c => by rw [hs c]; rfl) U l r _ fun vs T l1 r1 p1 => by
    obtain ⟨v, rfl, hv⟩ := p1.inv1
    refine ⟨q, by rw [hv.int], h1.1, h1.2, k _ T l1 r1 ⟨fun T' _ => Nat.le_refl _, fun n hn T' _ => ⟨hn, fun x H' ⟨e1, e2⟩ => ⟨T', e1.symm, Le.refl T', e2⟩⟩⟩⟩⟩
theorem ei_range2 {q w : Int} (B : BI Y "range" (.type "range")) (ha : E m Y σ W i a (.d (.int q)) j) (hb : E m Y σ W j b (.d (.int w)) k) (h1 : -(2 ^ 62) ≤ q ∧ q < 2 ^ 62 ∧ -(2 ^ 62) ≤ w ∧ w < 2 ^ 62)
    (hs : ∀ c, starEach [a, b] (Y.X c).env = [(false, eval a (Y.X c).env), (false, eval b (Y.X c).env)] := by intro _; rfl) (hs2 : ∀ c, starEach [b] (Y.X c).env = [(false, eval b (Y.X c).env)] := by intro _; rfl) :
    EI m Y σ W i tg (.Call (.Name "range" p) [a, b] [] pos) (w - q).toNat (itR q) k := fun U l r Z z =>
  ⟨iRng2 (wA Y [a, b]), fun c => pi_range2 (B.g.gl c) (by rw [Y.hmg]; exact B.m) (wA_ok c) (hs c) (hs2 c), ea_cons ha (ea_cons hb ea_nil (fun c => by rw [hs2 c]; rfl)) (fun c => by rw [hs c, hs2 c]) U l r _ fun vs T l1 r1 p1 => by
    obtain ⟨v, v', rfl, hv, hv'⟩ := p1.inv2
    refine ⟨q, w, by rw [hv.int, hv'.int], h1, z _ T l1 r1 ⟨fun T' _ => Nat.le_refl _, fun n hn T' _ => ⟨hn, fun x H' ⟨e1, e2⟩ => ⟨T', e1.symm, Le.refl T', e2⟩⟩⟩⟩⟩
def itRC (lo st : Int) : Nat → V → Wd → Prop := fun k x _ => x = .int (lo + (k : Int) * st)
theorem ei_range3 {q w g : Int} {N : Nat} {l : m.ι} (B : BI Y "range" (.type "range")) (ha : E m Y σ W i a (.d (.int q)) j) (hb : E m Y σ W j b (.d (.int w)) k) (hc : E m Y σ W k c (.d (.int g)) l) (h1 : RgC q w g N)
    (hs : ∀ t, starEach [a, b, c] (Y.X t).env = (false, eval a (Y.X t).env) :: starEach [b, c] (Y.X t).env := by intro _; rfl) (hs2 : ∀ t, starEach [b, c] (Y.X t).env = (false, eval b (Y.X t).env) :: starEach [c] (Y.X t).env := by intro _; rfl) (hs3 : ∀ t, starEach [c] (Y.X t).env = (false, eval c (Y.X t).env) :: starEach [] (Y.X t).env := by intro _; rfl)
    (hpl : ∀ t, (backTo pos (starEach [b, c] (Y.X t).env)).any (·.1) = false := by intro _; rfl) :
    EI m Y σ W i tg (.Call (.Name "range" p) [a, b, c] [] pos) N (itRC q g) l := fun U le r Z z =>
  ⟨iRng3 (wA Y [a, b, c]), fun t => pi_range3 (B.g.gl t) (by rw [Y.hmg]; exact B.m) (wA_ok t) (hs t) (hpl t), ea_cons ha (ea_cons hb (ea_cons hc ea_nil hs3) hs2) hs U le r _ fun vs T l1 r1 p1 => by
    obtain ⟨v, v', v'', rfl, hv, hv', hv''⟩ := p1.inv3
    refine ⟨q, w, g, N, by rw [hv.int, hv'.int, hv''.int], h1, z _ T l1 r1 ⟨fun T' _ => Nat.le_refl _, fun n hn T' _ => ⟨hn, fun x H' ⟨e1, e2⟩ => ⟨T', e1.symm, Le.refl T', e2⟩⟩⟩⟩⟩
/-- zip of two tuples, enumerate of a list: new pairs -/
def itP (K : PySem.W.Frag) (P : Nat → PD → PD → Prop) : Nat → V → Wd → Prop := fun k x T => ∃ (t : Addr) (v1 v2 : V) (d1 d2 : PD), x = .ref t ∧ SqT K T.F t [v1, v2] ∧ Dp K T.F v1 d1 ∧ Dp K T.F v2 d2 ∧ P k d1 d2
theorem ei_zipT {elts : List Expr} {q : Nat} {tp : Pos} {ds es : List PD} (B : BI Y "zip" (.type "zip")) (ha : E m Y σ W i a (.d (.tuple ds)) j) (hb : E m Y σ W j b (.d (.tuple es)) k)
    (hs : ∀ c, starEach [a, b] (Y.X c).env = (false, eval a (Y.X c).env) :: starEach [b] (Y.X c).env := by intro _; rfl) (hs2 : ∀ c, starEach [b] (Y.X c).env = (false, eval b (Y.X c).env) :: starEach [] (Y.X c).env := by intro _; rfl)
    (hpl : ∀ c, (backTo pos (starEach [b] (Y.X c).env)).any (·.1) = false := by intro _; rfl) :
    EI m Y σ W i (.Tuple elts q tp) (.Call (.Name "zip" p) [a, b] [] pos) (min ds.length es.length) (itP Y.K fun n d1 d2 => ds[n]? = some d1 ∧ es[n]? = some d2) k := fun U l r Z z =>
  ⟨iZipA Y.K (wA Y [a, b]), fun c => by
    have h := pi_zipA (X := Y.X c) (tpos := tp) (elts := elts) (kk := q) (p := p) (pos := pos) (B.g.gl c) (by rw [Y.hmg]; exact B.m) (wA_ok (es := [a, b]) c) (hs c) (hpl c)
    rw [Y.hK c] at h
    exact h, ea_cons ha (ea_cons hb ea_nil hs2) hs U l r _ fun vs T l1 r1 p1 => by
    obtain ⟨v, v', rfl, hv, hv'⟩ := p1.inv2
    obtain ⟨a1, vs1, rfl, e2, e3⟩ := Is.tup hv
    obtain ⟨b1, vs2, rfl, f2, f3⟩ := Is.tup hv'
    have n1 := e3.len
    have n2 := f3.len
    refine ⟨a1, b1, vs1, vs2, rfl, .inr ⟨sqT_sub T e2, sqT_sub T f2, z _ T l1 r1 ⟨fun T' hf => ⟨vs1, vs2, sqT_sub T' (Evl.ex_t hf e2), sqT_sub T' (Evl.ex_t hf f2), by omega⟩, fun n hn T' hf => ?_⟩⟩⟩
    have q1 : SqT Y.K T'.H a1 vs1 := sqT_sub T' (Evl.ex_t hf e2)
    have q2 : SqT Y.K T'.H b1 vs2 := sqT_sub T' (Evl.ex_t hf f2)
    have h1 : n < vs1.length := by omega
    have h2 : n < vs2.length := by omega
    refine ⟨⟨vs1, vs2, vs1[n], vs2[n], q1, q2, by simp [h1], by simp [h2]⟩, fun x H' ⟨t, x1, x2, ex, ht, hH, g1, g2⟩ => ?_⟩
    subst ex hH
    obtain ⟨d1, w1, w2⟩ := e3.get (g1 vs1 q1)
    obtain ⟨d2, w3, w4⟩ := f3.get (g2 vs2 q2)
    have up := upd_none (o := .tup [x1, x2]) (T'.fnone ht)
    exact ⟨T'.frz t _ ht, rfl, Le.frz ht, t, x1, x2, d1, d2, rfl, SqT.of upd_same, (w2.mono hf).mono up, (w4.mono hf).mono up, w1, w3⟩⟩
theorem ei_enumL {elts : List Expr} {q : Nat} {tp : Pos} (B : BI Y "enumerate" (.type "enumerate")) (ha : E m Y σ W i a (.d (.list ds)) j)
    (hs : ∀ c, starEach [a] (Y.X c).env = [(false, eval a (Y.X c).env)] := by intro _; rfl) :
    EI m Y σ W i (.Tuple elts q tp) (.Call (.Name "enumerate" p) [a] [] pos) ds.length (itP Y.K fun n d1 d2 => d1 = .int (n : Int) ∧ ds[n]? = some d2) j := fun U l r Z z =>
  ⟨iEnum Y.K (wA Y [a]), fun c => by
    have h := pi_enum (X := Y.X c) (tpos := tp) (elts := elts) (kk := q) (p := p) (pos := pos) (B.g.gl c) (by rw [Y.hmg]; exact B.m) (wA_ok (es := [a]) c) (hs c)
    rw [Y.hK c] at h
    exact h, ea_cons ha ea_nil (fun c => by rw [hs c]; rfl) U l r _ fun vs T l1 r1 p1 => by
    obtain ⟨v, rfl, hv⟩ := p1.inv1
    obtain ⟨a1, vs1, rfl, e2, e3⟩ := Is.lst hv
    refine ⟨a1, vs1, rfl, sqL_sub T e2, z _ T l1 r1 ⟨fun T' hf => ⟨vs1, sqL_sub T' (Evl.ex_l hf e2), by rw [e3.len]; exact Nat.le_refl _⟩, fun n hn T' hf => ?_⟩⟩
    have q1 : SqL Y.K T'.H a1 vs1 := sqL_sub T' (Evl.ex_l hf e2)
    have h1 : n < vs1.length := by rw [e3.len]; exact hn
    refine ⟨⟨vs1, vs1[n], q1, by simp [h1]⟩, fun x H' ⟨t, x2, ex, ht, hH, g2⟩ => ?_⟩
    subst ex hH
    obtain ⟨d2, w3, w4⟩ := e3.get (g2 vs1 q1)
    have up := upd_none (o := .tup [.int (n : Nat), x2]) (T'.fnone ht)
    exact ⟨T'.frz t _ ht, rfl, Le.frz ht, t, _, x2, _, d2, rfl, SqT.of upd_same, Dp.int _, (w4.mono hf).mono up, rfl, w3⟩⟩

/-! ### comprehensions -/
def Fam.blk (Y : Fam) (scope : Scope) : Fam where
  α := Y.α × Shared × Hp × Addr × List (Str × Addr) × List Addr
  X := fun q => (Y.X q.1).blk q.2.1 q.2.2.1 scope (compEnvC scope q.2.2.2.2.1 q.2.2.2.1 (Y.X q.1).env) q.2.2.2.2.2
  P := Y.P
  w := Y.w
  K := Y.K
  mg := Y.mg
  base := Y.base
  N := Y.N
  sc := relS scope Y.sc
  k := Y.k
  hP := fun q => Y.hP q.1
  hw := fun q => Y.hw q.1
  hK := fun q => Y.hK q.1
  hmg := fun q => Y.hmg q.1
  hbase := fun q => Y.hbase q.1
  hN := fun q => Y.hN q.1
  hsc := fun q => by
    show relS scope (Y.X q.1).env.scope = relS scope Y.sc
    rw [Y.hsc]
  hc := fun q => Y.hc q.1
  hr := fun q => Y.hr q.1
  nd := Y.nd
/-- the tests of a comprehension -/
def ETs (m : Mode) (Y : Fam) (σ : L2.St) (W : Wd) (i : m.ι) (es : List Expr) (b : Bool) (j : m.ι) : Prop :=
  ∀ U, Le m.M W U → m.R i U → ∀ Q : Bool → Hp → Prop, (∀ T, Le m.M U T → m.R j T → Q b T.H) → wTs Y es σ U.H Q
theorem ets_nil : ETs m Y σ W i [] true i := fun U _ r Q q => ⟨tYes, fun _ => pts_nil, q U (Le.refl U) r⟩
theorem ets_one (h : ET m Y σ W i c u j) : ETs m Y σ W i [c] u j := fun U h1 r Q q => ⟨_, fun a => pts_one (wT_ok a), h U h1 r _ q⟩
/-- a turn: the target takes the item, the tests, the element -/
def Turn1 (m : Mode) (B : Fam) (tg elt : Expr) (ifs : List Expr) (vs : List Nat) (σ : L2.St) (x : V) (T : Wd) (j : m.ι) (b : Bool) (d : PD) : Prop :=
  ∃ σ2 : L2.St, (∀ Q : L2.St → Hp → Prop, Q σ2 T.H → wG B tg x (wipe σ vs) T.H Q) ∧ wipe σ2 vs = wipe σ vs ∧ ETs m B σ2 T j ifs b j ∧ (b = true → E m B σ2 T j elt (.d d) j)
theorem lc_run {α : Type} {elt : Expr} {ifs : List Expr} {scope : Scope} {vs : List Nat} {it : Nat → V → Wd → Prop} (xs : List α) (pr : α → Bool) (g : α → PD) (hi : EI m Y σ W i tg iter xs.length it j) (hl : xs.length ≤ 100000)
    (ht : ∀ T0, Le m.M W T0 → ∀ k a, xs[k]? = some a → ∀ x T, Fl T0 T → m.R j T → it k x T → Turn1 m (Y.blk scope) tg elt ifs vs σ x T j (pr a) (g a)) :
    ∀ U, Le m.M W U → m.R i U → ∀ Q : VK, (∀ v T, Le m.M U T → m.R j T → (∃ p us, v = V.ref p ∧ U.H p = none ∧ T.F p = none ∧ T.H p = some (.lst us) ∧ DpAll Y.K T.F us ((xs.filter pr).map g)) → Q v T.H) →
      tLc (wI Y tg iter) (wG (Y.blk scope) tg) (wTs (Y.blk scope) ifs) (wE (Y.blk scope) elt) vs σ U.H Q := by
  intro U h1 r Q q
  refine hi U h1 r _ fun J T0 l0 r0 ok => ?_
  intro C hC
  have l00 : Le M0 T0 (T0.own C (.lst []) hC) := Le.own hC
  refine ⟨fun n q H => q = xs.length - n ∧ n ≤ xs.length ∧ ∃ T : Wd, T.H = H ∧ Le m.M T0 T ∧ m.R j T ∧ T.F C = none ∧ ∃ us, T.H C = some (.lst us) ∧ DpAll Y.K T.F us (((xs.take n).filter pr).map g), ⟨xs.length, by simp, Nat.zero_le _, T0.own C (.lst []) hC, rfl, Le.own hC, m.le0 r0 l00, T0.fnone hC, [], upd_same, by simpa using DpAll.nil⟩, ?_⟩
  rintro n q' H ⟨rfl, hn, T, rfl, l1, r1, f1, us, hu, du⟩
  by_cases hlt : n < xs.length
  · refine .inr ⟨(ok.2 n hlt T l1.fl).1, fun H' => ∃ T' : Wd, T'.H = H' ∧ Le m.M T0 T' ∧ m.R j T' ∧ T'.F C = none ∧ ∃ us, T'.H C = some (.lst us) ∧ DpAll Y.K T'.F us (((xs.take (n + 1)).filter pr).map g), fun H' hH => ⟨xs.length - (n + 1), by omega, rfl, hlt, hH⟩, fun x H' hy => ?_⟩
    obtain ⟨T1, rfl, l2, hit⟩ := (ok.2 n hlt T l1.fl).2 x H' hy
    have hCm : ¬ m.M C := fun z => (m.al j T0 r0 C z).1 hC
    have c1 : T1.H C = some (.lst us) := l2.h C _ (fun z => z) hu
    have f2 : T1.F C = none := l2.n C f1 (by rw [hu]; exact fun z => nomatch z)
    have r2 : m.R j T1 := m.le0 r1 l2
    have ha : xs[n]? = some xs[n] := by simp [hlt]
    obtain ⟨σ2, tg1, tg2, tg3, tg4⟩ := ht T0 (h1.trans l0) n xs[n] ha x T1 (l1.fl.trans l2.fl) r2 hit
    have tk : xs.take (n + 1) = xs.take n ++ [xs[n]] := by
      rw [List.take_add_one, ha] <;> rfl
    refine tg1 _ ⟨tg2, ?_⟩
    refine tg3 T1 (Le.refl T1) r2 _ fun T2 l3 r3 => ?_
    have c2 : T2.H C = some (.lst us) := l3.h C _ hCm c1
    have f3 : T2.F C = none := l3.n C f2 (by rw [c1]; exact fun z => nomatch z)
    have l4 : Le m.M T0 T2 := (l1.trans l2.of0).trans l3
    cases hb : pr xs[n] with
    | false =>
      show ∃ T' : Wd, T'.H = T2.H ∧ Le m.M T0 T' ∧ m.R j T' ∧ T'.F C = none ∧ ∃ us, T'.H C = some (.lst us) ∧ DpAll Y.K T'.F us (((xs.take (n + 1)).filter pr).map g)
      refine ⟨T2, rfl, l4, r3, f3, us, c2, ?_⟩
      rw [tk, List.filter_append, List.filter_cons, hb]
      simpa using (du.mono l2.f).mono l3.f
    | true =>
      show wE (Y.blk scope) elt σ2 T2.H fun y H4 => ∃ acc, H4 C = some (.lst acc) ∧ acc.length < sizeLine ∧ ∃ T' : Wd, T'.H = upd H4 C (.lst (acc ++ [y])) ∧ Le m.M T0 T' ∧ m.R j T' ∧ T'.F C = none ∧ ∃ us, T'.H C = some (.lst us) ∧ DpAll Y.K T'.F us (((xs.take (n + 1)).filter pr).map g)
      refine tg4 hb T2 l3 r3 _ fun y T3 l5 r4 hy => ?_
      have c3 : T3.H C = some (.lst us) := l5.h C _ hCm c2
      have f4 : T3.F C = none := l5.n C f3 (by rw [c2]; exact fun z => nomatch z)
      have dl : us.length ≤ n := by
        rw [du.len, List.length_map]
        exact Nat.le_trans (List.length_filter_le _ _) (by rw [List.length_take]; omega)
      refine ⟨us, c3, Evl.sz_lt (by omega), T3.put C _ f4, rfl, ?_, m.pt j T3 C _ _ f4 r4 hCm c3 rfl, f4, us ++ [y], upd_same, ?_⟩
      · have l6 : Le m.M T0 T3 := l4.trans l5
        exact ⟨l6.f, fun a o hm e => by
          show upd T3.H C _ a = some o
          rw [upd_ne (ne_of_none e hC)]
          exact l6.h a o hm e, l6.n, fun a ka => upd_some_ne (l6.k a ka)⟩
      · rw [tk, List.filter_append, List.filter_cons, hb, List.map_append]
        exact (((du.mono l2.f).mono l3.f).mono l5.f).app (by simpa using DpAll.one (show Dp Y.K T3.F y (g xs[n]) from hy))
  · have e : n = xs.length := by omega
    subst e
    refine .inl ⟨ok.1 T l1.fl, q (.ref C) T (l0.trans l1) r1 ⟨C, us, rfl, l0.back hC, f1, hu, ?_⟩⟩
    rw [List.take_length] at du
    exact du
theorem el_lc {α : Type} {elt : Expr} {ifs : List Expr} {scope : Scope} {own : List (Str × Nat)} {it : Nat → V → Wd → Prop} (xs : List α) (pr : α → Bool) (g : α → PD) (hi : EI m Y σ W i tg iter xs.length it j) (hl : xs.length ≤ 100000) (ok : BlkOk Y.N Y.sc scope own)
    (ht : ∀ T0, Le m.M W T0 → ∀ k a, xs[k]? = some a → ∀ x T, Fl T0 T → m.R j T → it k x T → Turn1 m (Y.blk scope) tg elt ifs (own.map (·.2)) σ x T j (pr a) (g a))
    (hs : ∀ a, ∀ x, foldedSetIterable iter (Y.X a).env x = pure x := by intro _ _; rfl) :
    EL m Y σ W i (.ListComp elt [⟨tg, iter, ifs, 0⟩] scope pos) ((xs.filter pr).map g) j := fun U h1 r Q q =>
  ⟨tLc (wI Y tg iter) (wG (Y.blk scope) tg) (wTs (Y.blk scope) ifs) (wE (Y.blk scope) elt) (own.map (·.2)), fun a => pe_lc (Y.hc a) (by rw [Y.hN]; exact Y.nd) (wI_ok a) (by rw [Y.hN, Y.hsc]; exact ok) (fun s H C cl fp => wG_ok (Y := Y.blk scope) (a, s, H, C, cl, fp)) (fun s H C cl fp => wTs_ok (Y := Y.blk scope) (a, s, H, C, cl, fp)) (fun s H C cl fp => wE_ok (Y := Y.blk scope) (a, s, H, C, cl, fp)) (hs a),
    lc_run xs pr g hi hl ht U h1 r Q q⟩
/-- name = [..], the name a plain local -/
theorem s_setLc {α : Type} {elt : Expr} {ifs : List Expr} {scope : Scope} {own : List (Str × Nat)} {it : Nat → V → Wd → Prop} {lp : Pos} (xs : List α) (pr : α → Bool) (g : α → PD) (hi : EI m Y σ W i tg iter xs.length it j) (hl : xs.length ≤ 100000) (ok : BlkOk Y.N Y.sc scope own)
    (ht : ∀ T0, Le m.M W T0 → ∀ k a, xs[k]? = some a → ∀ x T, Fl T0 T → m.R j T → it k x T → Turn1 m (Y.blk scope) tg elt ifs (own.map (·.2)) σ x T j (pr a) (g a)) (r : m.R i W)
    (hn : Y.N[n]? = some s) (hx : Y.sc.names.lookup s = some .local)
    (k : ∀ q T us, Le m.M W T → m.R j T → W.H q = none → T.F q = none → T.H q = some (.lst us) → DpAll Y.K T.F us ((xs.filter pr).map g) → wSs Y rest D (σ.set n (some (.ref q))) T.H)
    (hsw : ∀ a, swapsWith (.ListComp elt [⟨tg, iter, ifs, 0⟩] scope lp) (some (.Name s p')) p.line (Y.X a).env = pure true := by intro _; exact sw_true rfl rfl rfl (by decide +kernel))
    (hs : ∀ a, ∀ x, foldedSetIterable iter (Y.X a).env x = pure x := by intro _ _; rfl) :
    wSs Y (.Assign [.Name s p'] (.ListComp elt [⟨tg, iter, ifs, 0⟩] scope lp) p :: rest) D σ W.H :=
  ⟨_, fun a => pss_cons (ps_setLc (i := n) (own := own) (Y.hc a) (by rw [Y.hN]; exact Y.nd) (by rw [Y.hN]; exact hn) (by rw [Y.hsc]; exact hx) (hsw a) (wI_ok a) (by rw [Y.hN, Y.hsc]; exact ok) (fun s H C cl fp => wG_ok (Y := Y.blk scope) (a, s, H, C, cl, fp)) (fun s H C cl fp => wTs_ok (Y := Y.blk scope) (a, s, H, C, cl, fp)) (fun s H C cl fp => wE_ok (Y := Y.blk scope) (a, s, H, C, cl, fp)) (hs a)) (wSs_ok a),
    lc_run (vs := own.map (·.2)) xs pr g hi hl ht W (Le.refl W) r (fun x H1 => wSs Y rest D (σ.set n (some x)) H1) fun v T l1 r1 ⟨q, us, e1, e2, e3, e4, e5⟩ => by
      subst e1
      exact k q T us l1 r1 e2 e3 e4 e5⟩

/-! ### loops -/
/-- for: Inv by the walked thing's world, the turn -/
theorem s_for {it : Nat → V → Wd → Prop} (Inv : Wd → Nat → L2.St → Wd → m.ι → Prop) (hi : EI m Y σ W i tg iter n it j) (r : m.R i W) (h0 : ∀ T0, Le m.M W T0 → m.R j T0 → Inv T0 0 σ T0 j)
    (hs : ∀ T0, Le m.M W T0 → ∀ k σ' T c, k < n → Fl T0 T → m.R c T → Inv T0 k σ' T c → ∀ x T', Le M0 T T' → m.R c T' → it k x T' →
      wG Y tg x σ' T'.H fun σ2 H2 => wSs Y body { D with nx := fun σ3 H3 => ∃ V c', V.H = H3 ∧ Fl T0 V ∧ m.R c' V ∧ Inv T0 (k + 1) σ3 V c', ct := fun σ3 H3 => ∃ V c', V.H = H3 ∧ Fl T0 V ∧ m.R c' V ∧ Inv T0 (k + 1) σ3 V c', bk := fun σ3 H3 => wSs Y rest D σ3 H3 } σ2 H2)
    (hd : ∀ T0, Le m.M W T0 → ∀ σ' T c, Fl T0 T → m.R c T → Inv T0 n σ' T c → wSs Y rest D σ' T.H) (hp : ∀ a, PassesOwn (model (Y.X a).prog (Y.X a).w) (Y.X a).A (Y.X a).env (Y.X a).xe := by intro _; exact PassesOwn.never)
    (hss : ∀ a, ∀ x, foldedSetIterable iter (Y.X a).env x = pure x := by intro _ _; rfl) : wSs Y (.For tg iter body [] p :: rest) D σ W.H :=
  ⟨_, fun a => pss_cons (ps_for (hp a) (Y.hc a) (wI_ok a) (wG_ok a) (wSs_ok a) (hss a)) (wSs_ok a), hi W (Le.refl W) r _ fun J T0 l0 r0 ok => by
    refine ⟨fun k q σ' H' => q = n - k ∧ k ≤ n ∧ ∃ T c, T.H = H' ∧ Fl T0 T ∧ m.R c T ∧ Inv T0 k σ' T c, ⟨n, by simp, Nat.zero_le _, T0, j, rfl, Fl.refl T0, r0, h0 T0 l0 r0⟩, ?_⟩
    rintro k q σ' H' ⟨rfl, hk, T, c, rfl, f1, r1, inv⟩
    by_cases hlt : k < n
    · refine .inr ⟨(ok.2 k hlt T f1).1, fun σ3 H3 => ∃ V c', V.H = H3 ∧ Fl T0 V ∧ m.R c' V ∧ Inv T0 (k + 1) σ3 V c', fun σ3 H3 h => ⟨n - (k + 1), by omega, rfl, hlt, h⟩, fun x H2 hy => ?_⟩
      obtain ⟨T', rfl, l2, hit⟩ := (ok.2 k hlt T f1).2 x H2 hy
      exact hs T0 l0 k σ' T c hlt f1 r1 inv x T' l2 (m.le0 r1 l2) hit
    · have e : k = n := by omega
      subst e
      exact .inl ⟨ok.1 T f1, hd T0 l0 σ' T c f1 r1 inv⟩⟩
/-- while: Inv with a measure -/
theorem s_while {te : Expr} (Inv : Nat → L2.St → Wd → m.ι → Prop) (q0 : Nat) (h0 : Inv q0 σ W i) (r : m.R i W)
    (hs : ∀ q σ' T c, m.R c T → Fl W T → Inv q σ' T c → ∃ b c2, ET m Y σ' T c te b c2 ∧
      (b = true → ∀ T2, Le m.M T T2 → m.R c2 T2 → wSs Y body { D with nx := fun σ3 H3 => ∃ q' V c', q' < q ∧ V.H = H3 ∧ Fl W V ∧ m.R c' V ∧ Inv q' σ3 V c', ct := fun σ3 H3 => ∃ q' V c', q' < q ∧ V.H = H3 ∧ Fl W V ∧ m.R c' V ∧ Inv q' σ3 V c', bk := fun σ3 H3 => wSs Y rest D σ3 H3 } σ' T2.H) ∧
      (b = false → ∀ T2, Le m.M T T2 → m.R c2 T2 → wSs Y rest D σ' T2.H)) (hp : ∀ a, PassesOwn (model (Y.X a).prog (Y.X a).w) (Y.X a).A (Y.X a).env (Y.X a).xe := by intro _; exact PassesOwn.never) : wSs Y (.While te body [] p :: rest) D σ W.H :=
  ⟨_, fun a => pss_cons (ps_while (hp a) (wT_ok a) (wSs_ok a)) (wSs_ok a), by
    refine ⟨fun q σ' H' => ∃ T c, T.H = H' ∧ Fl W T ∧ m.R c T ∧ Inv q σ' T c, ⟨q0, W, i, rfl, Fl.refl W, r, h0⟩, ?_⟩
    rintro q σ' H' ⟨T, c, rfl, f1, r1, inv⟩
    obtain ⟨b, c2, ht, k1, k2⟩ := hs q σ' T c r1 f1 inv
    refine ht T (Le.refl T) r1 _ fun T2 l2 r2 => ?_
    cases b with
    | true => exact ⟨fun σ3 H3 => ∃ q' V c', q' < q ∧ V.H = H3 ∧ Fl W V ∧ m.R c' V ∧ Inv q' σ3 V c', fun σ3 H3 ⟨q', V, c', h1, h2, h3, h4, h5⟩ => ⟨q', h1, V, c', h2, h3, h4, h5⟩, k1 rfl T2 l2 r2⟩
    | false => exact k2 rfl T2 l2 r2⟩
end
end Pv
set_option Elab.async false
set_option linter.all false
set_option maxRecDepth 100000
set_option maxHeartbeats 2000000
namespace Pv
open PySem PySem.Spec PyProof.Rows L2
/-! ### lists and dicts that a def owns and changes -/
def OwnL (K : PySem.W.Frag) (W : Wd) (l : Addr) (ds : List PD) : Prop := W.F l = none ∧ ∃ vs, W.H l = some (.lst vs) ∧ DpAll K W.F vs ds
def OwnD (K : PySem.W.Frag) (W : Wd) (l : Addr) (kvs : List (Key × PD)) : Prop := W.F l = none ∧ ∃ vs, W.H l = some (.dK vs) ∧ KVD K W.F vs kvs
theorem OwnL.le {K : PySem.W.Frag} {M : Addr → Prop} {W T : Wd} {l : Addr} {ds : List PD} (h : OwnL K W l ds) (a : Le M W T) (hm : ¬ M l) : OwnL K T l ds := by
  obtain ⟨h1, vs, h2, h3⟩ := h
  exact ⟨a.n l h1 (by rw [h2]; exact fun z => nomatch z), vs, a.h l _ hm h2, h3.mono a.f⟩
theorem OwnD.le {K : PySem.W.Frag} {M : Addr → Prop} {W T : Wd} {l : Addr} {kvs : List (Key × PD)} (h : OwnD K W l kvs) (a : Le M W T) (hm : ¬ M l) : OwnD K T l kvs := by
  obtain ⟨h1, vs, h2, h3⟩ := h
  exact ⟨a.n l h1 (by rw [h2]; exact fun z => nomatch z), vs, a.h l _ hm h2, h3.mono a.f⟩
def MX (M : Addr → Prop) (l : Addr) : Addr → Prop := fun a => M a ∨ a = l
theorem Le.mx {M : Addr → Prop} {W T : Wd} (h : Le M W T) (l : Addr) : Le (MX M l) W T := h.mono fun _ z => .inl z
theorem Le.putX {M : Addr → Prop} {W : Wd} {l : Addr} {o : HO} (h : W.F l = none) : Le (MX M l) W (W.put l o h) := Le.put h (.inr rfl)
/-- the dict's value at a key -/
def valD (kvs : List (Key × PD)) (k : Key) : Option PD := (kvs.find? fun kv => decide (kv.1 = k)).map (·.2)
def putD (kvs : List (Key × PD)) (k : Key) (d : PD) : List (Key × PD) := if (kvs.any fun kv => decide (kv.1 = k)) then kvs.map fun kv => if kv.1 = k then (kv.1, d) else kv else kvs ++ [(k, d)]
theorem KVD.any {K : PySem.W.Frag} {F : Hp} {k : Key} : ∀ {vs : List (Key × V)} {kvs : List (Key × PD)}, KVD K F vs kvs → (vs.any fun kv => decide (kv.1 = k)) = (kvs.any fun kv => decide (kv.1 = k))
  | _, _, .nil => rfl
  | _, _, .cons ⟨a, _⟩ t => by
    rw [List.any_cons, List.any_cons, KVD.any t, a]
theorem KVD.val {K : PySem.W.Frag} {F : Hp} {k : Key} : ∀ {vs : List (Key × V)} {kvs : List (Key × PD)}, KVD K F vs kvs → (valV vs k = none ∧ valD kvs k = none) ∨ ∃ v d, valV vs k = some v ∧ valD kvs k = some d ∧ Dp K F v d
  | _, _, .nil => .inl ⟨rfl, rfl⟩
  | p :: _, q :: _, .cons ⟨a, b⟩ t => by
    by_cases h : q.1 = k
    · exact .inr ⟨p.2, q.2, valV_pos (a.trans h), by simp [valD, List.find?_cons, h], b⟩
    · have h' : ¬ p.1 = k := fun z => h (a.symm.trans z)
      rw [valV_neg h']
      have e : ∀ r : List (Key × PD), valD (q :: r) k = valD r k := fun r => by simp [valD, List.find?_cons, h]
      rw [e]
      exact KVD.val t
theorem KVD.app {K : PySem.W.Frag} {F : Hp} : ∀ {vs us : List (Key × V)} {kvs lvs : List (Key × PD)}, KVD K F vs kvs → KVD K F us lvs → KVD K F (vs ++ us) (kvs ++ lvs)
  | _, _, _, _, .nil, h => h
  | _, _, _, _, .cons a t, h => .cons a (KVD.app t h)
theorem KVD.repl {K : PySem.W.Frag} {F : Hp} {k : Key} {v : V} {d : PD} (hd : Dp K F v d) : ∀ {vs : List (Key × V)} {kvs : List (Key × PD)}, KVD K F vs kvs → KVD K F (vs.map fun kv => if kv.1 = k then (kv.1, v) else kv) (kvs.map fun kv => if kv.1 = k then (kv.1, d) else kv)
  | _, _, .nil => .nil
  | p :: _, q :: _, .cons ⟨a, b⟩ t => by
    rw [List.map_cons, List.map_cons]
    refine .cons ?_ (KVD.repl hd t)
    by_cases h : q.1 = k
    · rw [if_pos h, if_pos (a.trans h)]
      exact ⟨a, hd⟩
    · rw [if_neg h, if_neg fun z => h (a.symm.trans z)]
      exact ⟨a, b⟩
theorem KVD.put {K : PySem.W.Frag} {F : Hp} {k : Key} {v : V} {d : PD} {vs : List (Key × V)} {kvs : List (Key × PD)} (h : KVD K F vs kvs) (hd : Dp K F v d) : KVD K F (putK vs k v) (putD kvs k d) := by
  unfold putK putD
  rw [h.any (k := k)]
  split
  · exact h.repl hd
  · exact h.app (.cons ⟨rfl, hd⟩ .nil)
theorem KVD.len {K : PySem.W.Frag} {F : Hp} {vs : List (Key × V)} {kvs : List (Key × PD)} (h : KVD K F vs kvs) : vs.length = kvs.length := Paired.length h
theorem KVD.keys {K : PySem.W.Frag} {F : Hp} : ∀ {vs : List (Key × V)} {kvs : List (Key × PD)}, KVD K F vs kvs → vs.map (·.1) = kvs.map (·.1)
  | _, _, .nil => rfl
  | _, _, .cons ⟨a, _⟩ t => by rw [List.map_cons, List.map_cons, KVD.keys t, a]
section
variable {m : Mode} {Y : Fam} {σ : L2.St} {W W' : Wd} {i j k l : m.ι} {e a b c tg iter key : Expr} {es : List Expr} {rest body : List Stmt} {pos p p' ap cp : Pos} {x y z : Sv} {d d' : PD} {ds : List PD} {kvs : List (Key × PD)} {u v : Bool} {D : Ends} {s : Str} {n : Nat} {q : Addr}
/-- a name whose value is known -/
theorem e_at {w : V} (hN : Y.N[n]? = some s) (hv : Vis Y.sc s) (hs : σ[n]? = some (some w)) (hd : (s == ("__debug__" : Str)) = false := by decide) (hcd : (s == ("__classdict__" : Str)) = false := by decide) :
    EG m Y σ W i (.Name s pos) (fun _ v _ => v = w) i := fun U h1 r Q k => ⟨tVar n, fun a => pe_var (by rw [Y.hN]; exact hN) (by rw [Y.hsc]; exact hv) hd hcd, w, hs, k w U (Le.refl U) r rfl⟩
/-- an expression whose value is a list that may be read now -/
def ERl (m : Mode) (Y : Fam) (σ : L2.St) (W : Wd) (i : m.ι) (e : Expr) (ds : List PD) (j : m.ι) : Prop :=
  EG m Y σ W i e (fun _ v T => ∃ a vs, v = V.ref a ∧ (∀ T', Le m.M T T' → SqL Y.K T'.H a vs) ∧ DpAll Y.K T.F vs ds) j
theorem E.rl (h : E m Y σ W i e (.d (.list ds)) j) : ERl m Y σ W i e ds j := EG.imp h fun U v T _ _ _ _ q => by
  obtain ⟨a, vs, e1, e2, e3⟩ := Is.lst q
  exact ⟨a, vs, e1, fun T' l => sqL_sub T' (Evl.ex_l l.f e2), e3⟩
theorem EL.rl (h : EL m Y σ W i e ds j) : ERl m Y σ W i e ds j := EG.imp h fun U v T _ r _ _ ⟨p, vs, e1, e2, _, e4, e5⟩ => ⟨p, vs, e1, fun T' l => SqL.of (l.h p _ (m.nm r e2) e4), e5⟩
theorem erl_own (hN : Y.N[n]? = some s) (hv : Vis Y.sc s) (hs : σ[n]? = some (some (.ref q))) (ho : OwnL Y.K W q ds) (hm : ¬ m.M q) (hd : (s == ("__debug__" : Str)) = false := by decide) (hcd : (s == ("__classdict__" : Str)) = false := by decide) :
    ERl m Y σ W i (.Name s pos) ds i := EG.imp (e_at hN hv hs hd hcd) fun U v T h1 _ h2 _ e => by
  obtain ⟨_, vs, e2, e3⟩ := ho.le (h1.trans h2) hm
  exact ⟨q, vs, e, fun T' l => SqL.of (l.h q _ hm e2), e3⟩
def ERd (m : Mode) (Y : Fam) (σ : L2.St) (W : Wd) (i : m.ι) (e : Expr) (kvs : List (Key × PD)) (j : m.ι) : Prop :=
  EG m Y σ W i e (fun _ v T => ∃ a vs, v = V.ref a ∧ (∀ T', Le m.M T T' → T'.H a = some (.dK vs)) ∧ KVD Y.K T.F vs kvs) j
theorem E.rd (h : E m Y σ W i e (.dk kvs) j) : ERd m Y σ W i e kvs j := EG.imp h fun U v T _ _ _ _ ⟨a, vs, e1, e2, e3⟩ => ⟨a, vs, e1, fun T' l => T'.sub _ _ (l.f _ _ e2), e3⟩
theorem erd_own (hN : Y.N[n]? = some s) (hv : Vis Y.sc s) (hs : σ[n]? = some (some (.ref q))) (ho : OwnD Y.K W q kvs) (hm : ¬ m.M q) (hd : (s == ("__debug__" : Str)) = false := by decide) (hcd : (s == ("__classdict__" : Str)) = false := by decide) :
    ERd m Y σ W i (.Name s pos) kvs i := EG.imp (e_at hN hv hs hd hcd) fun U v T h1 _ h2 _ e => by
  obtain ⟨_, vs, e2, e3⟩ := ho.le (h1.trans h2) hm
  exact ⟨q, vs, e, fun T' l => l.h q _ hm e2, e3⟩
theorem erl_le (h : Le m.M W W') (q : ERl m Y σ W i e ds j) : ERl m Y σ W' i e ds j := EG.le h q
/-! ### dicts: in, item, store -/
theorem Fam.units1 (Y : Fam) (a : Y.α) : (Y.X a).A.units + 1 < cLine := hu_of (Y.hr a).r
theorem c_din {g : Int} (hk : E m Y σ W i key (.d (.int g)) j) (hd : ERd m Y σ W j b kvs k) (hm : behindInMarks .In b = false := by rfl) : EC m Y σ W i (.Compare key [.In] [b] pos) (valD kvs (.inl g)).isSome k := fun U l r Q z =>
  ⟨_, fun a => cmpC (pc_din (Y.units1 a) (wE_ok a) (wE_ok a)) hm, hk U l r _ fun v T l1 r1 p1 => hd T (l.trans l1) r1 _ fun v2 T2 l2 r2 ⟨q, vs, e1, e2, e3⟩ => by
    rw [p1.int]
    refine ⟨q, valV vs (.inl g), e1, DGet.k (k := Sum.inl g) (e2 T2 (Le.refl T2)), ?_⟩
    have hb : (valV vs (.inl g)).isSome = (valD kvs (.inl g)).isSome := by
      rcases e3.val (k := .inl g) with ⟨h1, h2⟩ | ⟨v, d, h1, h2, _⟩ <;> rw [h1, h2] <;> rfl
    rw [hb]
    exact z _ T2 (l1.trans l2) r2 (Dp.bl _)⟩
theorem c_dnotin {g : Int} (hk : E m Y σ W i key (.d (.int g)) j) (hd : ERd m Y σ W j b kvs k) (hm : behindInMarks .NotIn b = false := by rfl) : EC m Y σ W i (.Compare key [.NotIn] [b] pos) (!(valD kvs (.inl g)).isSome) k := fun U l r Q z =>
  ⟨_, fun a => cmpC (pc_dnotin (Y.units1 a) (wE_ok a) (wE_ok a)) hm, hk U l r _ fun v T l1 r1 p1 => hd T (l.trans l1) r1 _ fun v2 T2 l2 r2 ⟨q, vs, e1, e2, e3⟩ => by
    rw [p1.int]
    refine ⟨q, valV vs (.inl g), e1, DGet.k (k := Sum.inl g) (e2 T2 (Le.refl T2)), ?_⟩
    have hb : (valV vs (.inl g)).isSome = (valD kvs (.inl g)).isSome := by
      rcases e3.val (k := .inl g) with ⟨h1, h2⟩ | ⟨v, d, h1, h2, _⟩ <;> rw [h1, h2] <;> rfl
    rw [hb]
    exact z _ T2 (l1.trans l2) r2 (Dp.bl _)⟩
theorem e_dget {g : Int} (hd : ERd m Y σ W i a kvs j) (hk : E m Y σ W j key (.d (.int g)) k) (hv : valD kvs (.inl g) = some d) (hs : NoSl key := by intro _ _; rfl) : E m Y σ W i (.Subscript a key pos) (.d d) k := fun U l r Q z =>
  ⟨_, fun a => pe_dget (Y.units1 a) (wE_ok a) (wE_ok a) hs, hd U l r _ fun v T l1 r1 ⟨q, vs, e1, e2, e3⟩ => hk T (l.trans l1) r1 _ fun v2 T2 l2 r2 p2 => by
    rw [p2.int]
    rcases e3.val (k := .inl g) with ⟨h1, h2⟩ | ⟨v, d1, h1, h2, h3⟩
    · rw [hv] at h2
      cases h2
    · rw [hv] at h2
      cases h2
      refine ⟨q, v, e1, ?_, z v T2 (l1.trans l2) r2 (h3.mono l2.f)⟩
      rw [← h1]
      exact DGet.k (k := Sum.inl g) (e2 T2 l2)⟩
/-- found[key] = value, found owned -/
theorem s_dput {g : Int} {o : Expr} {value : Expr} (hv : E m Y σ W i value (.d d) j) (hd : ∀ T, Le m.M W T → EG m Y σ T j o (fun _ v _ => v = .ref q) j) (hk : ∀ T, Le m.M W T → E m Y σ T j key (.d (.int g)) j) (r : m.R i W) (ho : OwnD Y.K W q kvs) (hm : ¬ m.M q) (hz : kvs.length < 100000)
    (k : ∀ T, Le (MX m.M q) W T → m.R j T → OwnD Y.K T q (putD kvs (.inl g) d) → wSs Y rest D σ T.H)
    (hs : ∀ a, swapsWith value (some (.Subscript o key p')) p.line (Y.X a).env = pure false := by intro _; rfl) : wSs Y (.Assign [.Subscript o key p'] value p :: rest) D σ W.H :=
  ⟨_, fun a => pss_cons (ps_dput (Y.units1 a) (wE_ok a) (wE_ok a) (wE_ok a) (hs a)) (wSs_ok a), hv W (Le.refl W) r _ fun v T l1 r1 p1 => hd T l1 T (Le.refl T) r1 _ fun v2 T2 l2 r2 e2 => hk T l1 T2 l2 r2 _ fun v3 T3 l3 r3 p3 => by
    have l4 : Le m.M W T3 := (l1.trans l2).trans l3
    obtain ⟨f3, vs, h3, d3⟩ := ho.le l4 hm
    subst e2
    rw [p3.int]
    refine ⟨q, _, rfl, DPut.k (k := Sum.inl g) h3 (Evl.sz_lt (by rw [d3.len]; exact hz)), ?_⟩
    exact k (T3.put q _ f3) ((l4.mx q).trans (Le.putX f3)) (m.pt j T3 q _ _ f3 r3 hm h3 rfl) ⟨f3, _, upd_same, d3.put ((p1.mono (l2.trans l3).f))⟩⟩
/-- found.append(e), found owned -/
theorem s_append {o : Expr} (hd : EG m Y σ W i o (fun _ v _ => v = .ref q) i) (he : E m Y σ W i e (.d d) j) (r : m.R i W) (ho : OwnL Y.K W q ds) (hm : ¬ m.M q) (hz : ds.length < 100000)
    (k : ∀ T, Le (MX m.M q) W T → m.R j T → OwnL Y.K T q (ds ++ [d]) → wSs Y rest D σ T.H)
    (hbase : ∀ a, attributeBase o "append" (Y.X a).env (eval o (Y.X a).env) = eval o (Y.X a).env := by intro _; rfl)
    (hfew : ∀ a, ((backTo cp (starEach [e] (Y.X a).env)).all (fun x => !x.1) && (backToKw cp (keywordEach [] (Y.X a).env)).all (fun x => x.1.isSome) && decide ([e].length + ([] : List Keyword).length + (if ([] : List Keyword).isEmpty then 0 else 1) < 30)) = true := by intro _; rfl)
    (hline : (ap.endLine == cp.line) = true := by rfl) (hst : ∀ a, starEach [e] (Y.X a).env = (false, eval e (Y.X a).env) :: starEach [] (Y.X a).env := by intro _; rfl) (hpl : ∀ a, (backTo cp (starEach [] (Y.X a).env)).any (·.1) = false := by intro _; rfl)
    (hs : ∀ a, swapsWith (.Call (.Attribute o "append" ap) [e] [] cp) none p.line (Y.X a).env = pure false := by intro _; rfl) : wSs Y (.Expr (.Call (.Attribute o "append" ap) [e] [] cp) p :: rest) D σ W.H :=
  ⟨tSeq (tDrop (tBM Y.K "list" rAppend (wE Y o) (wA Y [e]))) (wSs Y rest), fun a => pss_cons (ps_expr (by
    have h := pe_bm (X := Y.X a) (apos := ap) (cpos := cp) PySem.F.plainAttrs_list PySem.F.slot_list_append PySem.F.type_list_append mt_append (wE_ok (e := o) a) (wA_ok (es := [e]) a) (hbase a) (hfew a) hline (hst a) (hpl a)
    rw [Y.hK a] at h
    exact h) (hs a)) (wSs_ok a), hd W (Le.refl W) r _ fun v T l1 r1 e1 => by
    obtain ⟨f1, vs1, h1, d1⟩ := ho.le l1 hm
    subst e1
    refine ⟨.inl ⟨rfl, vs1, SqL.of h1⟩, ea_cons he ea_nil hst T l1 r1 _ fun us T2 l2 r2 p2 => ?_⟩
    obtain ⟨w, rfl, hw⟩ := p2.inv1
    obtain ⟨f2, vs, h2, d2⟩ := ho.le (l1.trans l2) hm
    refine ⟨q, vs, w, rfl, rfl, h2, Evl.sz_lt (by rw [d2.len]; exact hz), ?_⟩
    exact k (T2.put q _ f2) (((l1.trans l2).mx q).trans (Le.putX f2)) (m.pt j T2 q _ _ f2 r2 hm h2 rfl) ⟨f2, _, upd_same, d2.app (.one hw)⟩⟩
/-- found.extend(new list) -/
theorem s_extend {o : Expr} {es' : List PD} (hd : EG m Y σ W i o (fun _ v _ => v = .ref q) i) (he : EL m Y σ W i e es' j) (r : m.R i W) (ho : OwnL Y.K W q ds) (hm : ¬ m.M q) (hz : ds.length + es'.length ≤ 100000)
    (k : ∀ T, Le (MX m.M q) W T → m.R j T → OwnL Y.K T q (ds ++ es') → wSs Y rest D σ T.H)
    (hbase : ∀ a, attributeBase o "extend" (Y.X a).env (eval o (Y.X a).env) = eval o (Y.X a).env := by intro _; rfl)
    (hfew : ∀ a, ((backTo cp (starEach [e] (Y.X a).env)).all (fun x => !x.1) && (backToKw cp (keywordEach [] (Y.X a).env)).all (fun x => x.1.isSome) && decide ([e].length + ([] : List Keyword).length + (if ([] : List Keyword).isEmpty then 0 else 1) < 30)) = true := by intro _; rfl)
    (hline : (ap.endLine == cp.line) = true := by rfl) (hst : ∀ a, starEach [e] (Y.X a).env = (false, eval e (Y.X a).env) :: starEach [] (Y.X a).env := by intro _; rfl) (hpl : ∀ a, (backTo cp (starEach [] (Y.X a).env)).any (·.1) = false := by intro _; rfl)
    (hs : ∀ a, swapsWith (.Call (.Attribute o "extend" ap) [e] [] cp) none p.line (Y.X a).env = pure false := by intro _; rfl) : wSs Y (.Expr (.Call (.Attribute o "extend" ap) [e] [] cp) p :: rest) D σ W.H :=
  ⟨tSeq (tDrop (tBM Y.K "list" rExtend (wE Y o) (tCons (wE Y e) tNil))) (wSs Y rest), fun a => pss_cons (ps_expr (by
    have h := pe_bm (X := Y.X a) (apos := ap) (cpos := cp) PySem.F.plainAttrs_list PySem.F.slot_list_extend PySem.F.type_list_extend mt_extend (wE_ok (e := o) a) (pa_cons (wE_ok (e := e) a) pa_nil (hst a)) (hbase a) (hfew a) hline (hst a) (hpl a)
    rw [Y.hK a] at h
    exact h) (hs a)) (wSs_ok a), hd W (Le.refl W) r _ fun v T l1 r1 e1 => by
    obtain ⟨f1, vs1, h1, d1⟩ := ho.le l1 hm
    subst e1
    refine ⟨.inl ⟨rfl, vs1, SqL.of h1⟩, he T l1 r1 _ fun w T2 l2 r2 ⟨b, us, e1, e2, e3, e4, e5⟩ => ?_⟩
    subst e1
    obtain ⟨f2, vs, h2, d2⟩ := ho.le (l1.trans l2) hm
    refine ⟨q, b, vs, us, rfl, rfl, h2, e4, Evl.sz_of (by rw [d2.len, e5.len]; exact hz), ?_⟩
    exact k (T2.put q _ f2) (((l1.trans l2).mx q).trans (Le.putX f2)) (m.pt j T2 q _ _ f2 r2 hm h2 rfl) ⟨f2, _, upd_same, d2.app e5⟩⟩
/-! ### displays of dicts -/
theorem ed_empty : ED m Y σ W i (.Dict [] [] pos) [] i := fun U _ r Q z => ⟨tDNewK, fun _ => pe_dnewK, fun p hp => z (.ref p) (U.own p _ hp) (Le.own hp) (m.le0 r (Le.own hp)) ⟨p, [], rfl, hp, U.fnone hp, upd_same, .nil⟩⟩
theorem ed_one {g : Int} {value : Expr} (hk : E m Y σ W i key (.d (.int g)) j) (hv : E m Y σ W j value (.d d) k) : ED m Y σ W i (.Dict [some key] [value] pos) [(.inl g, d)] k := fun U l r Q z =>
  ⟨tDisp [(wE Y key, wE Y value)], fun a => pe_disp (pps_cons (wE_ok a) (wE_ok a) pps_nil) (by rfl) (by rfl) (fun z => by cases z) (Nat.le_of_ble_eq_true rfl), fun p hp => by
    show wE Y key σ (upd U.H p (.dK [])) fun x H1 => wE Y value σ H1 fun y H2 => _
    have l0 : Le m.M U (U.own p (.dK []) hp) := Le.own hp
    have hpm : ¬ m.M p := m.nm r hp
    refine hk (U.own p (.dK []) hp) (l.trans l0) (m.le0 r (Le.own hp)) _ fun v1 T1 l1 r1 p1 => hv T1 ((l.trans l0).trans l1) r1 _ fun v2 T2 l2 r2 p2 => ?_
    have h2 : T2.H p = some (.dK []) := l2.h p _ hpm (l1.h p _ hpm upd_same)
    have f2 : T2.F p = none := (l1.trans l2).n p (U.fnone hp) (by show upd U.H p _ p ≠ none; rw [upd_same]; exact fun z => nomatch z)
    rw [p1.int]
    refine ⟨h2, [(.inl g, v2)], rfl, Nat.le_of_ble_eq_true rfl, ?_⟩
    have e : mergeK [] [((.inl g : Key), v2)] = [(.inl g, v2)] := rfl
    rw [e]
    refine z (.ref p) (T2.put p _ f2) ⟨((l0.trans l1).trans l2).f, fun a o hm e => ?_, ((l0.trans l1).trans l2).n, fun a ka => upd_some_ne (((l0.trans l1).trans l2).k a ka)⟩ (m.pt k T2 p _ _ f2 r2 hpm h2 rfl) ⟨p, _, rfl, hp, f2, upd_same, .cons ⟨rfl, p2⟩ .nil⟩
    show upd T2.H p _ a = some o
    rw [upd_ne (ne_of_none e hp)]
    exact ((l0.trans l1).trans l2).h a o hm e⟩
end
end Pv
set_option Elab.async false
set_option linter.all false
set_option maxRecDepth 100000
set_option maxHeartbeats 4000000
namespace Pv
open PySem PySem.Spec PyProof.Rows L2
/-! ### isinstance of data -/
def tyD : PD → String
  | .none => "NoneType"
  | .bool _ => "bool"
  | .int _ => "int"
  | .str _ => "str"
  | .list _ => "list"
  | .tuple _ => "tuple"
  | .dict _ => "dict"
def rIsD (K : PySem.W.Frag) : CRd := fun xs H Q => ∃ (x : V) (c : String) (d : PD) (b : Bool), xs = [x, .ty c] ∧ Dp K H x d ∧ kitB (tyD d) c = some b ∧ Q (.bl b) H
theorem call_isD {X : Cx} : CallR X (.builtin "isinstance") (rIsD X.K) := by
  intro pins s σ H xs us Q I r h
  obtain ⟨x, c, d, b, rfl, hd, hk, q⟩ := h
  obtain ⟨u1, u2, rfl, r1, r2⟩ := vals2 r
  cases (show u2 = Value.type c from r2)
  have e : PySem.W.kitOne X.K (.type (tyD d)) (.type c) = some b := kit_ty hk
  have fin : ∀ tk, EP X pins σ Q (.bool b) { s with toks := tk } := fun tk => ⟨.bl b, H, I.tok tk, rfl, q⟩
  cases hd with
  | non =>
    cases (show u1 = Value.none from r1)
    exact PySem.W.kia_one PySem.W.kitx_none I.kIn True.intro e (fun z => nomatch z) fin
  | bl y =>
    cases (show u1 = Value.bool y from r1)
    exact PySem.W.kia_one PySem.W.kitx_bool I.kIn True.intro e (fun z => nomatch z) fin
  | int y =>
    obtain ⟨t, rfl⟩ := (show ∃ t, u1 = Value.int y t from r1)
    exact PySem.W.kia_one PySem.W.kitx_int I.kIn True.intro e (fun z => nomatch z) fin
  | str y =>
    obtain ⟨t, rfl⟩ := (show ∃ t, u1 = Value.str y t from r1)
    exact PySem.W.kia_one PySem.W.kitx_str I.kIn True.intro e (fun z => nomatch z) fin
  | lst h1 h2 =>
    cases (show u1 = Value.ref _ from r1)
    obtain ⟨its, rv, ⟨o, n, ho, hc, _, _⟩, _⟩ := I.list h1
    exact PySem.W.kia_one PySem.W.kitx_list I.kIn ⟨o, ho, hc⟩ e (fun z => nomatch z) fin
  | tup h1 h2 =>
    cases (show u1 = Value.ref _ from r1)
    obtain ⟨its, rv, ⟨o, ho, hc, n, _⟩, _⟩ := I.tuple h1
    exact PySem.W.kia_one PySem.W.kitx_tuple I.kIn ⟨o, ho, hc⟩ e (fun z => nomatch z) fin
section
variable {m : Mode} {Y : Fam} {σ : L2.St} {W W' : Wd} {i j k l : m.ι} {e a b c tg iter key : Expr} {es : List Expr} {rest body : List Stmt} {pos p p' ap cp : Pos} {x y z : Sv} {d d' : PD} {ds : List PD} {kvs : List (Key × PD)} {u v : Bool} {D : Ends} {s : Str} {n : Nat} {q : Addr}
/-- isinstance(x, T), T a built-in class by its name -/
theorem e_isinst {T : Str} {c : String} (B : BI Y "isinstance" (.builtin "isinstance")) (BT : BI Y T (.type c)) (ha : E m Y σ W i a (.d d) j) (hk : kitB (tyD d) c = some u) (hn : T ≠ "__name__" := by decide) (hd1 : (T == ("__debug__" : Str)) = false := by decide)
    (he : ∀ t, starEach [a, .Name T p'] (Y.X t).env = (false, eval a (Y.X t).env) :: starEach [.Name T p'] (Y.X t).env := by intro _; rfl) (he2 : ∀ t, starEach [.Name T p'] (Y.X t).env = (false, eval (.Name T p') (Y.X t).env) :: starEach [] (Y.X t).env := by intro _; rfl)
    (hpl : ∀ t, (backTo pos (starEach [.Name T p'] (Y.X t).env)).any (·.1) = false := by intro _; rfl) :
    E m Y σ W i (.Call (.Name "isinstance" p) [a, .Name T p'] [] pos) (.d (.bool u)) j := fun U h1 r Q z =>
  ⟨tCB (rIsD Y.K) (tCons (wE Y a) (tCons (tC (.ty c)) tNil)), fun t => pe_callB (by have h := call_isD (X := Y.X t); rw [Y.hK t] at h; exact h) (B.g.gl t) (by rw [Y.hmg]; exact B.m) B.v (pa_cons (wE_ok t) (pa_cons (pe_bltn (BT.g.gl t) (by rw [Y.hmg]; exact BT.m) BT.v rfl hn hd1) pa_nil (he2 t)) (he t)) (by decide) (by decide) (he t) (hpl t),
    ha U h1 r _ fun v T l1 r1 p1 => ⟨v, c, d, u, rfl, dp_sub T p1, hk, z _ T l1 r1 (Dp.bl _)⟩⟩
/-! ### in, not in: numbers among numbers -/
theorem inV_ints {n : Int} : ∀ ns : List Int, inV (.int n) (ns.map V.int) = ns.contains n
  | [] => rfl
  | a :: ns => by
    have h := inV_ints (n := n) ns
    unfold inV at h ⊢
    rw [List.map_cons, List.any_cons, h, List.contains_cons]
    congr 1
    show eqV (V.int a) (V.int n) = (n == a)
    by_cases z : a = n
    · subst z
      simp [eqV]
    · have z1 : (n == a) = false := beq_eq_false_iff_ne.mpr fun w => z w.symm
      have z2 : (a == n) = false := beq_eq_false_iff_ne.mpr z
      simp [eqV, z, z1, z2]
theorem flat_ints : ∀ ns : List Int, (ns.map V.int).all flatV = true
  | [] => rfl
  | _ :: ns => by
    rw [List.map_cons, List.all_cons, flat_ints ns]
    rfl
theorem c_inT {g : Int} {ns : List Int} (ha : E m Y σ W i a (.d (.int g)) j) (hb : E m Y σ W j b (.d (.tuple (ns.map .int))) k) (hm : behindInMarks .In b = false := by rfl) : EC m Y σ W i (.Compare a [.In] [b] pos) (ns.contains g) k := fun U l r Q z =>
  ⟨tOp (rIn Y.K false) _ _, fun t => cmpR (by have h := op_in_seq (X := Y.X t); rw [Y.hK t] at h; exact h) (wE_ok t) (wE_ok t) hm, ha U l r _ fun v1 T1 l1 r1 p1 => hb T1 (l.trans l1) r1 _ fun v2 T2 l2 r2 p2 => by
    obtain ⟨q, vs, e1, e2, e3⟩ := Is.tup p2
    have e4 := e3.ints
    subst e4
    rw [p1.int]
    refine ⟨q, _, e1, .inr (sqT_sub T2 e2), rfl, flat_ints ns, ?_⟩
    rw [if_neg Bool.false_ne_true, inV_ints]
    exact z _ T2 (l1.trans l2) r2 (Dp.bl _)⟩
theorem c_notinT {g : Int} {ns : List Int} (ha : E m Y σ W i a (.d (.int g)) j) (hb : E m Y σ W j b (.d (.tuple (ns.map .int))) k) (hm : behindInMarks .NotIn b = false := by rfl) : EC m Y σ W i (.Compare a [.NotIn] [b] pos) (!ns.contains g) k := fun U l r Q z =>
  ⟨tOp (rIn Y.K true) _ _, fun t => cmpR (by have h := op_notIn_seq (X := Y.X t); rw [Y.hK t] at h; exact h) (wE_ok t) (wE_ok t) hm, ha U l r _ fun v1 T1 l1 r1 p1 => hb T1 (l.trans l1) r1 _ fun v2 T2 l2 r2 p2 => by
    obtain ⟨q, vs, e1, e2, e3⟩ := Is.tup p2
    have e4 := e3.ints
    subst e4
    rw [p1.int]
    refine ⟨q, _, e1, .inr (sqT_sub T2 e2), rfl, flat_ints ns, ?_⟩
    rw [if_pos rfl, inV_ints]
    exact z _ T2 (l1.trans l2) r2 (Dp.bl _)⟩
theorem c_inL {g : Int} {ns : List Int} (ha : E m Y σ W i a (.d (.int g)) j) (hb : ERl m Y σ W j b (ns.map .int) k) (hm : behindInMarks .In b = false := by rfl) : EC m Y σ W i (.Compare a [.In] [b] pos) (ns.contains g) k := fun U l r Q z =>
  ⟨tOp (rIn Y.K false) _ _, fun t => cmpR (by have h := op_in_seq (X := Y.X t); rw [Y.hK t] at h; exact h) (wE_ok t) (wE_ok t) hm, ha U l r _ fun v1 T1 l1 r1 p1 => hb T1 (l.trans l1) r1 _ fun v2 T2 l2 r2 ⟨q, vs, e1, e2, e3⟩ => by
    have e4 := e3.ints
    subst e4
    rw [p1.int]
    refine ⟨q, _, e1, .inl (e2 T2 (Le.refl T2)), rfl, flat_ints ns, ?_⟩
    rw [if_neg Bool.false_ne_true, inV_ints]
    exact z _ T2 (l1.trans l2) r2 (Dp.bl _)⟩
theorem c_notinL {g : Int} {ns : List Int} (ha : E m Y σ W i a (.d (.int g)) j) (hb : ERl m Y σ W j b (ns.map .int) k) (hm : behindInMarks .NotIn b = false := by rfl) : EC m Y σ W i (.Compare a [.NotIn] [b] pos) (!ns.contains g) k := fun U l r Q z =>
  ⟨tOp (rIn Y.K true) _ _, fun t => cmpR (by have h := op_notIn_seq (X := Y.X t); rw [Y.hK t] at h; exact h) (wE_ok t) (wE_ok t) hm, ha U l r _ fun v1 T1 l1 r1 p1 => hb T1 (l.trans l1) r1 _ fun v2 T2 l2 r2 ⟨q, vs, e1, e2, e3⟩ => by
    have e4 := e3.ints
    subst e4
    rw [p1.int]
    refine ⟨q, _, e1, .inl (e2 T2 (Le.refl T2)), rfl, flat_ints ns, ?_⟩
    rw [if_pos rfl, inV_ints]
    exact z _ T2 (l1.trans l2) r2 (Dp.bl _)⟩
/-- list(xs), len(xs), tuple(xs) of a list that may be read now -/
theorem el_listR (B : BI Y "list" (.type "list")) (ha : ERl m Y σ W i e ds j) (he : ∀ a, starEach [e] (Y.X a).env = (false, eval e (Y.X a).env) :: starEach [] (Y.X a).env := by intro _; rfl) (hpl : ∀ a, (backTo pos (starEach [] (Y.X a).env)).any (·.1) = false := by intro _; rfl) :
    EL m Y σ W i (.Call (.Name "list" p) [e] [] pos) ds j := fun U h1 r Q z =>
  ⟨tCB (rListS Y.K) (tCons (wE Y e) tNil), fun t => pe_callTy (cList t) (B.g.gl t) (by rw [Y.hmg]; exact B.m) B.v (pa_cons (wE_ok t) pa_nil (he t)) (by decide) (by decide) (he t) (hpl t), ha U h1 r _ fun v T l1 r1 ⟨q, vs, e1, e2, e3⟩ => by
    subst e1
    refine ⟨q, vs, rfl, .inl (e2 T (Le.refl T)), fun l hl => ?_⟩
    exact z (.ref l) (T.own l _ hl) (l1.trans (Le.own hl)) (m.le0 r1 (Le.own hl)) ⟨l, vs, rfl, l1.back hl, T.fnone hl, upd_same, e3⟩⟩
theorem e_lenR (B : BI Y "len" (.builtin "len")) (ha : ERl m Y σ W i e ds j) (he : ∀ a, starEach [e] (Y.X a).env = (false, eval e (Y.X a).env) :: starEach [] (Y.X a).env := by intro _; rfl) (hpl : ∀ a, (backTo pos (starEach [] (Y.X a).env)).any (·.1) = false := by intro _; rfl) :
    E m Y σ W i (.Call (.Name "len" p) [e] [] pos) (.d (.int (ds.length : Int))) j := fun U h1 r Q z =>
  ⟨tCB (rLenS Y.K) (tCons (wE Y e) tNil), fun t => pe_callB (cLen t) (B.g.gl t) (by rw [Y.hmg]; exact B.m) B.v (pa_cons (wE_ok t) pa_nil (he t)) (by decide) (by decide) (he t) (hpl t), ha U h1 r _ fun v T l1 r1 ⟨q, vs, e1, e2, e3⟩ => by
    subst e1
    refine ⟨q, vs, rfl, .inl (e2 T (Le.refl T)), ?_⟩
    rw [e3.len]
    exact z _ T l1 r1 (Dp.int _)⟩
theorem e_tupR (B : BI Y "tuple" (.type "tuple")) (ha : ERl m Y σ W i e ds j) (he : ∀ a, starEach [e] (Y.X a).env = (false, eval e (Y.X a).env) :: starEach [] (Y.X a).env := by intro _; rfl) (hpl : ∀ a, (backTo pos (starEach [] (Y.X a).env)).any (·.1) = false := by intro _; rfl) :
    E m Y σ W i (.Call (.Name "tuple" p) [e] [] pos) (.d (.tuple ds)) j := fun U h1 r Q z =>
  ⟨tCB (rTupS Y.K) (tCons (wE Y e) tNil), fun t => pe_callTy (cTup t) (B.g.gl t) (by rw [Y.hmg]; exact B.m) B.v (pa_cons (wE_ok t) pa_nil (he t)) (by decide) (by decide) (he t) (hpl t), ha U h1 r _ fun v T l1 r1 ⟨q, vs, e1, e2, e3⟩ => by
    subst e1
    refine ⟨q, vs, rfl, .inl ⟨e2 T (Le.refl T), fun l hl => ?_⟩⟩
    exact z (.ref l) (T.frz l _ hl) (l1.trans (Le.frz hl)) (m.le0 r1 (Le.frz hl)) (Dp.tup (SqT.of upd_same) (e3.mono (upd_none (T.fnone hl))))⟩
/-- == and != of lists that may be read now, against written data -/
theorem Dp.ofR {K : PySem.W.Frag} {T : Wd} {a : Addr} {vs : List V} (h : SqL K T.H a vs) (hd : DpAll K T.F vs ds) : Dp K T.H (.ref a) (.list ds) := .lst h (hd.mono T.sub)
theorem c_neR (ha : ERl m Y σ W i a ds j) (hb : E m Y σ W j b (.d d') k) (h1 : SeqAt.shaped (.list ds) = true) (h2 : SeqAt.shaped d' = true) : EC m Y σ W i (.Compare a [.NotEq] [b] pos) (!PyData.eqv (.list ds) d') k := fun U l r Q z =>
  ⟨tOp (rNeD Y.K) _ _, fun t => cmpR (by have h := op_neD (X := Y.X t) (Y.units t); rw [Y.hK t] at h; exact h) (wE_ok t) (wE_ok t) (nomark _), ha U l r _ fun v1 T1 l1 r1 ⟨q, vs, e1, e2, e3⟩ => hb T1 (l.trans l1) r1 _ fun v2 T2 l2 r2 p2 => by
    subst e1
    exact ⟨_, d', Dp.ofR (e2 T2 l2) (e3.mono l2.f), dp_sub T2 p2, h1, h2, z _ T2 (l1.trans l2) r2 (Dp.bl _)⟩⟩
theorem c_eqR (ha : ERl m Y σ W i a ds j) (hb : E m Y σ W j b (.d d') k) (h1 : SeqAt.shaped (.list ds) = true) (h2 : SeqAt.shaped d' = true) : EC m Y σ W i (.Compare a [.Eq] [b] pos) (PyData.eqv (.list ds) d') k := fun U l r Q z =>
  ⟨tOp (rEqD Y.K) _ _, fun t => cmpR (by have h := op_eqD (X := Y.X t) (Y.units t); rw [Y.hK t] at h; exact h) (wE_ok t) (wE_ok t) (nomark _), ha U l r _ fun v1 T1 l1 r1 ⟨q, vs, e1, e2, e3⟩ => hb T1 (l.trans l1) r1 _ fun v2 T2 l2 r2 p2 => by
    subst e1
    exact ⟨_, d', Dp.ofR (e2 T2 l2) (e3.mono l2.f), dp_sub T2 p2, h1, h2, z _ T2 (l1.trans l2) r2 (Dp.bl _)⟩⟩
/-- xs[i] of a list that may be read now -/
theorem e_ixR {n : Int} (ha : ERl m Y σ W i a ds j) (hb : E m Y σ W j b (.d (.int n)) k) (h : atI ds n = some d) (hs : PlainIx b := by intro _ _; rfl) : E m Y σ W i (.Subscript a b pos) (.d d) k := fun U l r Q z =>
  ⟨tOp (rIxL Y.K) _ _, fun t => pe_ix (by have h := ix_list (X := Y.X t); rw [Y.hK t] at h; exact h) (wE_ok t) (wE_ok t) hs, ha U l r _ fun v1 T1 l1 r1 ⟨q, vs, e1, e2, e3⟩ => hb T1 (l.trans l1) r1 _ fun v2 T2 l2 r2 p2 => by
    obtain ⟨v, e4, e5⟩ := dpAt e3 h
    exact ⟨q, vs, n, v, e1, p2.int, e2 T2 l2, e4, z v T2 (l1.trans l2) r2 (Dp.mono l2.f e5)⟩⟩
/-! ### slices -/
theorem po_ok {Y : Fam} {e : Option Expr} (a : Y.α) : PO (Y.X a) e (wO Y e) := ⟨fun pins s σ H Q I ⟨_, h, q⟩ => (h a).run pins s σ H Q I q⟩
def EO (m : Mode) (Y : Fam) (σ : L2.St) (W : Wd) (i : m.ι) (e : Option Expr) (o : Option Int) (j : m.ι) : Prop :=
  ∀ U, Le m.M W U → m.R i U → ∀ Q : Option Int → Hp → Prop, (∀ T, Le m.M U T → m.R j T → Q o T.H) → wO Y e σ U.H Q
theorem eo_none : EO m Y σ W i none none i := fun U _ r Q z => ⟨tNoPart, fun _ => po_none, z U (Le.refl U) r⟩
theorem eo_some {g : Int} (h : E m Y σ W i e (.d (.int g)) j) : EO m Y σ W i (some e) (some g) j := fun U h1 r Q z => ⟨_, fun a => po_some (wE_ok a), h U h1 r _ fun v T l1 r1 p1 => ⟨g, p1.int, z T l1 r1⟩⟩
def cutD (xs : List PD) (lo hi : Option Int) : List PD := (xs.drop (HT.sIx xs.length 0 lo)).take (HT.sIx xs.length xs.length hi - HT.sIx xs.length 0 lo)
theorem dp_cut {K : PySem.W.Frag} {F : Hp} {vs : List V} {lo hi : Option Int} (h : DpAll K F vs ds) : DpAll K F (cutV vs lo hi) (cutD ds lo hi) := by
  unfold cutV cutD
  rw [h.len]
  exact (h.drop _).take _
theorem el_slice {lo hi : Option Expr} {g1 g2 : Option Int} {p2 : Pos} (ha : E m Y σ W i a (.d (.list ds)) j) (hl : EO m Y σ W j lo g1 k) (hh : EO m Y σ W k hi g2 l) : EL m Y σ W i (.Subscript a (.Slice lo hi none p2) pos) (cutD ds g1 g2) l := fun U le r Q z =>
  ⟨tSl (rSlL Y.K) _ _ _, fun t => pe_slice (by have h := sl_list (X := Y.X t); rw [Y.hK t] at h; exact h) (wE_ok t) (po_ok t) (po_ok t), ha U le r _ fun v1 T1 l1 r1 p1 => hl T1 (le.trans l1) r1 _ fun T2 l2 r2 => hh T2 ((le.trans l1).trans l2) r2 _ fun T3 l3 r3 => by
    obtain ⟨q, vs, e1, e2, e3⟩ := Is.lst p1
    have l4 := l2.trans l3
    refine ⟨q, vs, e1, sqL_sub T3 (Evl.ex_l l4.f e2), fun p hp => ?_⟩
    exact z (.ref p) (T3.own p _ hp) ((l1.trans l4).trans (Le.own hp)) (m.le0 r3 (Le.own hp)) ⟨p, _, rfl, (l1.trans l4).back hp, T3.fnone hp, upd_same, dp_cut (e3.mono l4.f)⟩⟩
theorem e_sliceT {lo hi : Option Expr} {g1 g2 : Option Int} {p2 : Pos} (ha : E m Y σ W i a (.d (.tuple ds)) j) (hl : EO m Y σ W j lo g1 k) (hh : EO m Y σ W k hi g2 l) : E m Y σ W i (.Subscript a (.Slice lo hi none p2) pos) (.d (.tuple (cutD ds g1 g2))) l := fun U le r Q z =>
  ⟨tSl (rSlA Y.K) _ _ _, fun t => pe_slice (by have h := sl_tupA (X := Y.X t); rw [Y.hK t] at h; exact h) (wE_ok t) (po_ok t) (po_ok t), ha U le r _ fun v1 T1 l1 r1 p1 => hl T1 (le.trans l1) r1 _ fun T2 l2 r2 => hh T2 ((le.trans l1).trans l2) r2 _ fun T3 l3 r3 => by
    obtain ⟨q, vs, e1, e2, e3⟩ := Is.tup p1
    have l4 := l2.trans l3
    have sq : SqT Y.K T3.F q vs := Evl.ex_t l4.f e2
    refine ⟨q, vs, e1, sqT_sub T3 sq, fun hw => ?_, fun _ p hp => ?_⟩
    · refine z (.ref q) T3 (l1.trans l4) r3 (Dp.tup sq ?_)
      have e : cutD ds g1 g2 = ds := by
        unfold cutD
        rw [← e3.len, hw.1, hw.2, List.drop_zero, Nat.sub_zero, e3.len, List.take_length]
      rw [e]
      exact e3.mono l4.f
    · exact z (.ref p) (T3.frz p _ hp) ((l1.trans l4).trans (Le.frz hp)) (m.le0 r3 (Le.frz hp)) (Dp.tup (SqT.of upd_same) ((dp_cut (e3.mono l4.f)).mono (upd_none (T3.fnone hp))))⟩
theorem el_rev {q' : Nat} {p1 p2 p3 : Pos} (ha : ERl m Y σ W i a ds j) : EL m Y σ W i (.Subscript a (.Slice none none (some (.UnaryOp .USub (.Constant (.int 1) q' p1) p2)) p3) pos) ds.reverse j := fun U le r Q z =>
  ⟨tRevL Y.K (wE Y a), fun t => by
    have h := pe_revL (X := Y.X t) (k := q') (p1 := p1) (p2 := p2) (p3 := p3) (pos := pos) (wE_ok (e := a) t)
    rw [Y.hK t] at h
    exact h, ha U le r _ fun v1 T l1 r1 ⟨q, vs, e1, e2, e3⟩ => by
    refine ⟨q, vs, e1, e2 T (Le.refl T), fun p hp => ?_⟩
    exact z (.ref p) (T.own p _ hp) (l1.trans (Le.own hp)) (m.le0 r1 (Le.own hp)) ⟨p, _, rfl, l1.back hp, T.fnone hp, upd_same, e3.rev⟩⟩
/-! ### chains of comparisons -/
def ro (K : PySem.W.Frag) (g : Int → Int → Bool) : R2 := rI0 fun i j => .bl (g i j)
theorem c_chain {o1 o2 : CmpOp} {g1 g2 : Int → Int → Bool} {n1 n2 n3 : Int} (h1 : ∀ X : Cx, OpR X (compareOp o1) (rI0 fun i j => .bl (g1 i j))) (h2 : ∀ X : Cx, OpR X (compareOp o2) (rI0 fun i j => .bl (g2 i j))) (ha : E m Y σ W i a (.d (.int n1)) j) (hb : E m Y σ W j b (.d (.int n2)) k) (hc : E m Y σ W k c (.d (.int n3)) k)
    (hm : lastMarks [o1, o2] [b, c] = false := by with_unfolding_all rfl) : EC m Y σ W i (.Compare a [o1, o2] [b, c] pos) (g1 n1 n2 && g2 n2 n3) k := fun U le r Q z =>
  ⟨_, fun t => cmpH (h1 _) (h2 _) (wE_ok t) (wE_ok t) (wE_ok t) hm, ha U le r _ fun v1 T1 l1 r1 p1 => hb T1 (le.trans l1) r1 _ fun v2 T2 l2 r2 p2 => ⟨n1, n2, p1.int, p2.int, g1 n1 n2, rfl, by
    cases hg : g1 n1 n2 with
    | true =>
      rw [if_pos rfl]
      refine hc T2 ((le.trans l1).trans l2) r2 _ fun v3 T3 l3 r3 p3 => ⟨n2, n3, p2.int, p3.int, ?_⟩
      refine z _ T3 ((l1.trans l2).trans l3) r3 ?_
      show Dp Y.K T3.F (V.bl (g2 n2 n3)) (.bool (g1 n1 n2 && g2 n2 n3))
      rw [hg]
      exact Dp.bl _
    | false =>
      rw [if_neg Bool.false_ne_true]
      refine z _ T2 (l1.trans l2) r2 ?_
      show Dp Y.K T2.F (V.bl false) (.bool (g1 n1 n2 && g2 n2 n3))
      rw [hg]
      exact Dp.bl _⟩⟩
theorem c_leqleq {n1 n2 n3 : Int} (ha : E m Y σ W i a (.d (.int n1)) j) (hb : E m Y σ W j b (.d (.int n2)) k) (hc : E m Y σ W k c (.d (.int n3)) k) (hm : lastMarks [.LtE, .LtE] [b, c] = false := by with_unfolding_all rfl) :
    EC m Y σ W i (.Compare a [.LtE, .LtE] [b, c] pos) (decide (n1 ≤ n2) && decide (n2 ≤ n3)) k := c_chain (g1 := fun i j => decide (i ≤ j)) (g2 := fun i j => decide (i ≤ j)) (fun _ => op_le) (fun _ => op_le) ha hb hc hm
/-! ### least of a list, sums -/
theorem cMin (a : Y.α) : CallR (Y.X a) (.builtin "min") (rMin Y.K) := by
  have h := cr_min (X := Y.X a) (Y.hc a)
  rw [Y.hK a] at h
  exact h
theorem e_minL {ns : List Int} {g : Int} (B : BI Y "min" (.builtin "min")) (ha : E m Y σ W i e (.d (.list (ns.map .int))) j) (hg : g ∈ ns) (hl : ∀ y ∈ ns, g ≤ y) (he : ∀ a, starEach [e] (Y.X a).env = (false, eval e (Y.X a).env) :: starEach [] (Y.X a).env := by intro _; rfl) :
    E m Y σ W i (.Call (.Name "min" p) [e] [] pos) (.d (.int g)) j := e_cb B cMin (ea_cons ha ea_nil he) (fun T vs Q h z => by
  obtain ⟨v, rfl, h1⟩ := h.inv1
  obtain ⟨q, us, rfl, e2, e3⟩ := Is.lst h1
  have e4 := e3.ints
  subst e4
  refine ⟨q, ns, rfl, sqL_sub T e2, List.length_pos_of_mem hg, fun m' hm hle => ?_⟩
  have e5 : m' = g := by
    have a1 := hl m' hm
    have a2 := hle g hg
    omega
  subst e5
  exact z _ T (Le.refl T) (Dp.int _)) (he := he)
theorem cSortI (a : Y.α) : CallR (Y.X a) (.builtin "sorted") (rSortedI Y.K) := by
  have h := cr_sortedI (X := Y.X a)
  rw [Y.hK a] at h
  exact h
/-- sorted of numbers: the one rising arrangement -/
theorem sorted_unique : ∀ {a b : List Int}, a.Perm b → a.Pairwise (· ≤ ·) → b.Pairwise (· ≤ ·) → a = b := fun h1 h2 h3 => h1.eq_of_pairwise (fun x y _ _ a b => Int.le_antisymm a b) h2 h3
theorem el_sorted {ns ns' : List Int} (B : BI Y "sorted" (.builtin "sorted")) (ha : E m Y σ W i e (.d (.list (ns.map .int))) j) (hp : ns'.Perm ns) (hs : ns'.Pairwise (· ≤ ·)) (he : ∀ a, starEach [e] (Y.X a).env = (false, eval e (Y.X a).env) :: starEach [] (Y.X a).env := by intro _; rfl) :
    EL m Y σ W i (.Call (.Name "sorted" p) [e] [] pos) (ns'.map .int) j := el_cb B cSortI (ea_cons ha ea_nil he) (fun T vs Q h z => by
  obtain ⟨v, rfl, h1⟩ := h.inv1
  obtain ⟨q, us, rfl, e2, e3⟩ := Is.lst h1
  have e4 := e3.ints
  subst e4
  refine ⟨q, ns, rfl, sqL_sub T e2, fun zs p h1 h2 h3 => ?_⟩
  have e5 : zs = ns' := sorted_unique (h1.trans hp.symm) h2 hs
  subst e5
  exact z p _ (T.own p _ h3) (Le.own h3) h3 (T.fnone h3) upd_same (dpInts zs)) (he := he)
end
end Pv
set_option Elab.async false
set_option linter.all false
set_option maxRecDepth 100000
set_option maxHeartbeats 4000000
namespace Pv
open PySem PySem.Spec PyProof.Rows L2
/-! ### sorted of a dict with whole numbers as keys, any number of them -/
theorem call_sortedKeys {X : Cx} (hcalm : X.calm = true) : CallR X (.builtin "sorted") (fun xs H Q => ∃ (a : Addr) (kvs : List (Key × V)) (ks : List Int), xs = [.ref a] ∧ Rd H a (.dK kvs) ∧ kvs.map (·.1) = ks.map Sum.inl ∧
    ∀ (ys : List Int) (p : Addr), ys.Perm ks → ys.Pairwise (· ≤ ·) → H p = none → Q (.ref p) (upd H p (.lst (ys.map V.int)))) := by
  intro pins s σ H xs us Q I r q
  obtain ⟨a, kvs, ks, ex, hd, hks, q⟩ := q
  subst ex
  obtain ⟨u, eu, rx⟩ := vals1 r
  subst eu
  cases rx
  obtain ⟨z, lo, vs, rel, dd⟩ := dk_rd I.hok hd
  obtain ⟨ep, hat⟩ := dd.dictAt
  have hkeys : vs.map (·.1) = ks.map Sum.inl := rel.keys.symm.trans hks
  have hl : vs.length = ks.length := by
    have e := congrArg List.length hkeys
    simpa using e
  have hzk : ks.length ≤ sizeLine := by
    rw [← hl, ← rel.length]
    exact z
  refine Calls.call_function_entry kind_sorted plain_sorted entry_sorted (args_sorted1 _) ?_
  unfold Builtin.«sorted»
  refine wpAny_bind (m := checkCount "sorted" 1 1 _) (wpAny_pure ?_)
  refine wpAny_bind (PySem.W.kdu_collect (A := X.A.in1) (PySem.W.kdl_dict (knd := mixKind X.prog X.w) (kvs := vs) (ep := ep) lo) (I.ok.hd hcalm) hat (by rw [hl]; exact hzk) fun h' tk acc hk hacc => ?_)
  have hal : acc.toList.length = ks.length := by rw [Array.length_toList, hacc.1, hl]
  have hS : IntsAre acc.toList ks := ints_each hal fun j v e => by
    obtain ⟨k, x, e1, e2⟩ := hacc.2 j v (by rw [← Array.getElem?_toList]; exact e)
    have e3 : (vs.map (·.1))[j]? = some k := by rw [List.getElem?_map, e1] <;> rfl
    rw [hkeys, List.getElem?_map] at e3
    cases e4 : ks[j]? with
    | none =>
      rw [e4] at e3
      cases e3
    | some y =>
      rw [e4] at e3
      have e5 : Sum.inl y = k := Option.some.inj e3
      subst e5
      rcases keyIs_shape (show keyIs (Sum.inl y) v = true from e2) with ⟨i, t, ek, ev⟩ | ⟨z, t, ek, ev⟩
      · cases ek
        exact ⟨y, t, rfl, ev⟩
      · cases ek
  have I1 : Inv X pins σ H { s with heap := h', toks := tk } := I.kept hk
  refine wpAny_bind (wpAny_newList ?_ (by rw [hal]; exact hzk))
  have hoL : (h'.push (seqObj "list" acc.toList.toArray 0)).get? h'.objs.size = some (seqObj "list" acc.toList.toArray 0) := Heap.get?_push_size _ rfl
  show wpAny _ _ _ _ _ { s with heap := h'.push (seqObj "list" acc.toList.toArray 0), toks := tk }
  refine wpAny_bind (wpAny_holding (wpAny_call_entry slot_list_sort ⟨_, hoL, rfl⟩ entry_list_sort
    (SrtO.list_sort_ord (s := { s with heap := h'.push (seqObj "list" acc.toList.toArray 0), toks := tk }) SrtO.swo_int hoL (by rw [hal]; exact hzk) (fun h2 => SrtO.ints_sortable hS h2) fun out g1 g2 => ⟨_, rfl, ?_⟩) (args_list_sort _)))
  obtain ⟨k1, k2, k3⟩ := SrtO.ints_out hS g1 g2
  obtain ⟨e', he'⟩ := sortedHeap_at (vs := acc.toList) (out := out.toArray) hoL
  have hlen : ((out.map SrtO.iv).map V.int).length ≤ sizeLine := by
    rw [List.length_map, k2.length_eq]
    exact hzk
  refine wpAny_pure ⟨_, rfl, .ref h'.objs.size, upd H h'.objs.size (.lst ((out.map SrtO.iv).map V.int)), I1.laid (t' := tk) (fun b u e => ?_) (Nat.le_refl _)
    (show ObjOk X.prog X.w _ _ _ (.lst ((out.map SrtO.iv).map V.int)) from ⟨hlen, out, e', vals_of_ints k1, he'⟩), rfl, q _ _ k2 k3 (I1.hok.fresh (Nat.le_refl _))⟩
  have hb : b < h'.objs.size := Heap.lt_size e
  rw [sortedHeap_old (Nat.ne_of_lt hb) (by rw [size_push']; exact Nat.lt_succ_of_lt hb)]
  exact Heap.get?_push_of_some _ e
/-! ### a tuple turned about -/
theorem sliceApplied_back {prog : Program} {w : World} {A : Around} {E : Value → Shared → Prop} {s : Shared} {sl : Addr} {vs : Value} {n : Nat} {Q : Int × Int × Nat → Shared → Prop} (hs : s.heap.IsSliceOf sl .none .none vs) (ps : IsPart vs (some (-1)))
    (h : Q ((n : Int) - 1, -1, n) s) : wpAny (model prog w) A (Builtin.Slice.sliceApplied (.ref sl) (pure (n : Int))) Q E s := by
  obtain ⟨os, hos, hcs, hds⟩ := id hs
  unfold Builtin.Slice.sliceApplied Builtin.Slice.sliceFields
  refine wpAny_bind (wpAny_bind (wpAny_field hos hds (x := .none) rfl (wpAny_bind (wpAny_field hos hds (x := .none) rfl (wpAny_bind (wpAny_field hos hds (x := vs) rfl (wpAny_pure ?_)))))))
  refine wpAny_bind (HT.slicePart_ ps ?_)
  show wpAny _ _ (if ((-1 : Int) == 0) = true then _ else _) _ _ s
  rw [if_neg (by decide)]
  refine wpAny_bind (HT.slicePart_ .none (wpAny_bind (HT.slicePart_ .none (wpAny_bind (wpAny_pure ?_)))))
  show wpAny _ _ (match Builtin.Slice.sliceAdjust none none (-1) (n : Int) with | (lo, hi) => pure (lo, (-1 : Int), Builtin.Slice.slicePlaces lo hi (-1))) _ _ s
  have e1 : Builtin.Slice.sliceAdjust none none (-1) (n : Int) = ((n : Int) - 1, -1) := rfl
  rw [e1]
  have e2 : Builtin.Slice.slicePlaces ((n : Int) - 1) (-1) (-1) = n := by
    unfold Builtin.Slice.slicePlaces
    have h1 : ¬ ((-1 : Int) > 0) := by omega
    simp only [h1, if_false, Int.neg_neg, Int.ediv_one]
    split <;> omega
  show wpAny _ _ (pure ((n : Int) - 1, (-1 : Int), Builtin.Slice.slicePlaces ((n : Int) - 1) (-1) (-1))) _ _ s
  rw [e2]
  exact wpAny_pure h
theorem pick_back (xs : Array Value) : ((List.range xs.size).filterMap fun (m : Nat) => xs[(((xs.size : Int) - 1) + (m : Int) * (-1)).toNat]?).toArray = xs.toList.reverse.toArray := by
  congr 1
  apply List.ext_getElem?
  intro k
  have key : (List.range xs.size).filterMap (fun (m : Nat) => xs[(((xs.size : Int) - 1) + (m : Int) * (-1)).toNat]?) = (List.range xs.size).map fun m => xs.getD (xs.size - 1 - m) default := by
    have hh : ∀ l : List Nat, (∀ m ∈ l, m < xs.size) → l.filterMap (fun (m : Nat) => xs[(((xs.size : Int) - 1) + (m : Int) * (-1)).toNat]?) = l.map fun m => xs.getD (xs.size - 1 - m) default := by
      intro l
      induction l with
      | nil => intro _; rfl
      | cons m l ih =>
        intro hl
        have hm := hl m List.mem_cons_self
        have e : (((xs.size : Int) - 1) + (m : Int) * (-1)).toNat = xs.size - 1 - m := by omega
        have e2 : xs[xs.size - 1 - m]? = some (xs.getD (xs.size - 1 - m) default) := by
          have hlt : xs.size - 1 - m < xs.size := by omega
          simp [Array.getD, hlt]
        rw [List.filterMap_cons, e, e2, ih fun q hq => hl q (List.mem_cons_of_mem _ hq), List.map_cons]
    exact hh _ fun m hm => List.mem_range.mp hm
  rw [key, List.getElem?_map]
  by_cases hk : k < xs.size
  · have h1 : (List.range xs.size)[k]? = some k := by simp [hk]
    have hlt : xs.size - 1 - k < xs.size := by omega
    rw [h1, List.getElem?_reverse (by simpa using hk)]
    simp [Array.getD, hlt]
  · have h1 : (List.range xs.size)[k]? = none := by simp; omega
    have h2 : xs.toList.reverse[k]? = none := by simp; omega
    rw [h1, h2]
    rfl
theorem getItem_tuple_back {prog : Program} {w : World} {A : Around} {E : Value → Shared → Prop} {s : Shared} {t sl : Addr} {items : Array Value} {vs : Value} {Q : Value → Shared → Prop} (ht : IsTup s.heap t items) (hs : s.heap.IsSliceOf sl .none .none vs) (ps : IsPart vs (some (-1)))
    (h : Q (.ref s.heap.objs.size) { s with heap := s.heap.push { cls := .type "tuple", data := .seq items.toList.reverse.toArray } }) (hsz : items.size ≤ sizeLine) : wpAny (model prog w) A (getItem (.ref t) (.ref sl)) Q E s := by
  obtain ⟨os, hos, hcs, hds⟩ := id hs
  have hTs : s.TypeIs (.ref sl) "slice" := ⟨os, hos, hcs⟩
  have hsize : sizeOk (.seq items.toList.reverse.toArray) := by
    show items.toList.reverse.toArray.size ≤ sizeLine
    simpa using hsz
  unfold getItem
  try with_reducible refine wpAny_holding ?_
  first | refine wpAny_bind (wpAny_pure ?_) | skip
  refine wpAny_bind (wpAny_sequenceKey ht.typeIs (by decide) ?_)
  refine wpAny_bind (wpAny_callSpecial?_slot (name := Str.ofString "__getitem__") ht.typeIs slot_tuple_getitem (wpAny_call_entry slot_tuple_getitem ht.typeIs entry_tuple_getitem ?_ (args_tuple_getitem _ _)))
  show wpAny _ _ (Builtin.Tuple.tupleItemsOf (.ref t) >>= _) _ _ s
  refine wpAny_bind (tupleItemsOf_ ht ?_)
  refine wpAny_bind (wpAny_typeOf hTs ?_)
  rw [if_pos (by decide)]
  refine wpAny_bind (sliceApplied_back hs ps ?_)
  have hno : ¬ (((((items.size : Int) - 1) == 0 && (-1 : Int) == 1) && items.size == items.size) = true) := by
    intro q
    rw [Bool.and_eq_true, Bool.and_eq_true] at q
    exact absurd q.1.2 (by decide)
  show wpAny _ _ (if ((((items.size : Int) - 1) == 0 && (-1 : Int) == 1) && items.size == items.size) = true then _ else _) _ _ s
  rw [if_neg hno, pick_back]
  first
    | exact wpAny_bind (m := Builtin.Tuple.tupleExact _) (wpAny_newObj_type (wpAny_pure ⟨_, rfl, wpAny_pure h⟩) hsize)
    | exact wpAny_bind (m := Builtin.Tuple.tupleExact _) (wpAny_newObj_type (wpAny_bind (wpAny_pure (wpAny_pure ⟨_, rfl, wpAny_pure h⟩))) hsize)
    | exact wpAny_bind (wpAny_bind (m := Builtin.Tuple.tupleExact _) (wpAny_newObj_type (wpAny_pure (wpAny_pure ⟨_, rfl, wpAny_pure h⟩)) hsize))
    | exact wpAny_bind (wpAny_bind (m := Builtin.Tuple.tupleExact _) (wpAny_newObj_type (wpAny_pure ⟨_, rfl, wpAny_pure h⟩) hsize))
def tRevT (K : PySem.W.Frag) (te : TE) : TE := fun σ H Q => te σ H fun x H1 => ∃ a xs, x = .ref a ∧ SqT K H1 a xs ∧ ∀ p, H1 p = none → Q (.ref p) (upd H1 p (.tup xs.reverse))
theorem pe_revT {X : Cx} {e : Expr} {te : TE} {k : Nat} {p1 p2 p3 pos : Pos} (he : PE X e te) : PE X (.Subscript e (.Slice none none (some (.UnaryOp .USub (.Constant (.int 1) k p1) p2)) p3) pos) (tRevT X.K te) := by
  refine ⟨fun pins s σ H Q I h => ?_⟩
  refine Subscript_ (thn (he.run pins s σ H _ I h) fun v s1 ⟨x, H1, I1, r1, q1⟩ => ?_)
  obtain ⟨a, xs, ex, hx, q⟩ := q1
  subst ex
  cases r1
  have hst : PO X (some (.UnaryOp .USub (.Constant (.int 1) k p1) p2)) (tPart (tUn (rU fun i => .int (-i)) (tC (.int 1)))) := po_some (pe_un un_neg pe_int)
  rw [show (Expr.Slice none none (some (.UnaryOp .USub (.Constant (.int 1) k p1) p2)) p3) = Expr.Slice none none (some (.UnaryOp .USub (.Constant (.int 1) k p1) p2)) p3 from rfl]
  refine wpAny_Slice ?_
  rw [evalPart_none]
  refine wpAny_pure ?_
  refine wpAny_pure ?_
  refine thn (hst.run pins s1 σ H1 (fun o H4 => o = some (-1) ∧ H4 = H1) I1 ⟨1, rfl, -1, rfl, rfl, rfl⟩) fun vs s4 ⟨o, H4, I4, ps, eo, e4⟩ => ?_
  subst eo e4
  have I5 : Inv X pins σ H4 { s4 with heap := s4.heap.push { cls := .type "slice", data := .fields #[.none, .none, vs] } } := I4.kept (t' := s4.toks) fun b ob q => Heap.get?_push_of_some _ q
  obtain ⟨its, r, ht, hz⟩ := I5.tuple hx
  have hlen := r.length
  show wpAny (model X.prog X.w) X.A (subscriptTail e (.Slice none none (some (.UnaryOp .USub (.Constant (.int 1) k p1) p2)) p3) (.ref a) (.ref s4.heap.objs.size)) (EP X pins σ Q) X.xe { s4 with heap := s4.heap.push { cls := .type "slice", data := .fields #[.none, .none, vs] } }
  refine tail_any (ops := [.ref a, .ref s4.heap.objs.size]) ht.typeIs slot_tuple_getitem.lookup ?_ (by with_unfolding_all rfl)
  refine getItem_tuple_back ht (Heap.IsSliceOf.new _ .none .none vs) ps ?_ (by rw [List.size_toArray]; omega)
  refine ⟨.ref _, _, I5.laid (t' := s4.toks) (o := .tup xs.reverse) (fun b ob q => Heap.get?_push_of_some _ q) (Nat.le_refl _) ?_, rfl, q _ (I5.hok.fresh (Nat.le_refl _))⟩
  exact ⟨by rw [List.length_reverse]; exact hz, _, r.reverse, IsTup.new _ _⟩
/-! ### tuple.count among numbers -/
theorem countV {n : Int} : ∀ {ns : List Int} {us : List Value}, Vals (ns.map V.int) us → us.countP (eqU (.int n)) = ns.count n
  | [], _, .nil => rfl
  | a :: ns, _, .cons r t => by
    rw [List.countP_cons, countV t, List.count_cons]
    have e : eqU (.int n) _ = eqV (.int a) (.int n) := eqU_of (x := V.int n) r rfl
    rw [e]
    by_cases z : a = n
    · subst z
      simp [eqV]
    · have z1 : (a == n) = false := beq_eq_false_iff_ne.mpr z
      simp [eqV, z, z1]
theorem pe_tcount {X : Cx} {o e : Expr} {te : TE} {ta : TA} {apos cpos : Pos} (ho : PE X o te) (ha : PA X [e] ta)
    (hbase : attributeBase o "count" X.env (eval o X.env) = eval o X.env)
    (hfew : ((backTo cpos (starEach [e] X.env)).all (fun x => !x.1) && (backToKw cpos (keywordEach [] X.env)).all (fun x => x.1.isSome) && decide ([e].length + ([] : List Keyword).length + (if ([] : List Keyword).isEmpty then 0 else 1) < 30)) = true)
    (hline : (apos.endLine == cpos.line) = true) (hs : starEach [e] X.env = (false, eval e X.env) :: starEach [] X.env) (hplain : (backTo cpos (starEach [] X.env)).any (·.1) = false) :
    PE X (.Call (.Attribute o "count" apos) [e] [] cpos) (fun σ H Q => te σ H fun x H1 => ∃ (a : Addr) (ob : Obj) (ns : List Int), x = .ref a ∧ H1 a = some (.frz ob (.tup (ns.map V.int))) ∧ ob.cls = .type "tuple" ∧ ob.dict = none ∧
      ta σ H1 fun vs H2 => ∃ n : Int, vs = [.int n] ∧ H2 a = some (.frz ob (.tup (ns.map V.int))) ∧ Q (.int (ns.count n : Nat)) H2) := by
  refine ⟨fun pins s σ H Q I h => ?_⟩
  refine wpAny_Call_method_late hbase hfew hline rfl (thn (ho.run pins s σ H _ I h) fun v s1 ⟨x, H1, I1, r1, a, ob, ns, ex, h1, hc, hd, q1⟩ => ?_)
  subst ex
  obtain rfl : v = Value.ref a := r1
  obtain ⟨hob, _⟩ := (show ObjOk X.prog X.w H1 s1.heap a (.frz ob (.tup (ns.map V.int))) from I1.hok a _ h1)
  refine ⟨"tuple", "tuple.count", PySem.F.plainAttrs_tuple, PySem.F.slot_tuple_count, PySem.F.type_tuple_count, ⟨ob, hob, hc⟩, fun b e => by cases e; exact ⟨ob, hob, hd⟩, ?_⟩
  have hA := ha.run cpos pins s1 σ H1 _ I1 q1
  rw [hs] at hA ⊢
  refine Calls.callWith_builtin (by show (false || (backTo cpos (starEach [] X.env)).any (·.1)) = false; rw [hplain] <;> rfl) (Calls.evalArgs_plain ?_)
  refine thn hA fun us s2 ⟨vs, H2, I2, r2, n, ev, h2, q2⟩ => ?_
  subst ev
  obtain ⟨u, rfl, t, rfl⟩ := vals1 r2
  obtain ⟨hob2, _, its, rv, o2, e2, _, n2, d2⟩ := (show ObjOk X.prog X.w H2 s2.heap a (.frz ob (.tup (ns.map V.int))) from I2.hok a _ h2)
  rw [hob2] at e2
  cases e2
  obtain ⟨cls, dd, data, sl⟩ := ob
  simp only at hc hd d2
  subst hc hd d2
  refine PySem.call_meets PySem.F.slot_tuple_count ⟨_, hob2, rfl⟩ PySem.F.entry_tuple_count (PySem.F.args_tuple_count_2 _ _) (SeqAt.tuple_countAt a its.toArray n2 none sl (.int n t) (eqU (.int n)))
    ⟨hob2, fun y hy => mem_eqAt (x := .int n) ⟨t, rfl⟩ rfl rv (flat_ints ns) y (by simpa using hy), ?_⟩
  refine ⟨.int (ns.count n : Nat), H2, I2.tok _, ⟨s2.toks, ?_⟩, q2⟩
  rw [List.toList_toArray, countV rv]
/-! ### tuple() whose object is known -/
theorem call_tupleP {X : Cx} : CallR X (.type "tuple") (fun xs H Q => ∃ p ys, xs = [.ref p] ∧ SqL X.K H p ys ∧ ∀ l ob, ob.cls = .type "tuple" → ob.dict = none → H l = none → Q (.ref l) (upd H l (.frz ob (.tup ys)))) := by
  intro pins s σ H xs us Q I r h
  obtain ⟨p, ys, rfl, hq, q⟩ := h
  obtain ⟨u, rfl, rx⟩ := vals1 r
  cases rx
  obtain ⟨its, r', pl, hz⟩ := I.list hq
  have hlen := r'.length
  refine call_tuple_list pl.isList (fun h' kp => ?_) (by simp only [List.size_toArray] <;> omega)
  have I1 : Inv X pins σ H { s with heap := h' } := I.kept (t' := s.toks) kp
  have hat : (h'.push { cls := .type "tuple", data := .seq its.toArray }).get? h'.objs.size = some { cls := .type "tuple", data := .seq its.toArray } := Heap.get?_push_size _ rfl
  have I2 : Inv X pins σ (upd H h'.objs.size (.frz { cls := .type "tuple", data := .seq its.toArray } (.tup ys))) { s with heap := h'.push { cls := .type "tuple", data := .seq its.toArray } } :=
    I1.laid (t' := s.toks) (fun b o e => Heap.get?_push_of_some _ e) (Nat.le_refl _) ⟨hat, hz, its, r', IsTup.new _ _⟩
  exact ⟨.ref h'.objs.size, _, I2, rfl, q _ _ rfl rfl (I1.hok.fresh (Nat.le_refl _))⟩
/-! ### a tuple once, or not at all -/
theorem tuple_mul1 (l : Addr) (items : Array Value) (n : Nat) (dd : Option Addr) (sl : Array (Option Value)) (u : Tok) :
    Meets (Builtin.«tuple.__mul__» ⟨[.ref l, .int 1 u], []⟩) (fun _ R s => s.heap.get? l = some { cls := .type "tuple", dict := dd, data := .seq items n, slots := sl } ∧ R (.ok (.ret (Value.ref l))) s) :=
  .of_wp fun prog w A R s h => by
    obtain ⟨hp, g, d, tk, os⟩ := s
    obtain ⟨hl, h⟩ := h
    have f1 := AutoSeq1.idx_int
    have c1 : (items.isEmpty || (1 : Int) == 1) = true := by simp
    wp_walk using wpAny_loadPart' hl
    repeat (first
      | (refine wpAny_ite_false (by decide) ?_; wp_walk using wpAny_loadPart' hl)
      | (refine wpAny_ite_true (by simp) ?_; wp_walk using wpAny_loadPart' hl))
    exact ⟨_, rfl, h⟩
theorem tuple_mul0 (l : Addr) (items : Array Value) (n : Nat) (dd : Option Addr) (sl : Array (Option Value)) (u : Tok) (hi : items.isEmpty = false) :
    Meets (Builtin.«tuple.__mul__» ⟨[.ref l, .int 0 u], []⟩) (fun _ R s => s.heap.get? l = some { cls := .type "tuple", dict := dd, data := .seq items n, slots := sl } ∧ R (.ok (.ret (Value.ref s.heap.objs.size))) { s with heap := s.heap.push { cls := Value.type "tuple", data := Data.seq #[] }, toks := s.toks }) :=
  .of_wp fun prog w A R s h => by
    obtain ⟨hp, g, d, tk, os⟩ := s
    obtain ⟨hl, h⟩ := h
    have f1 := AutoSeq1.idx_int
    wp_walk using wpAny_loadPart' hl
    repeat (first
      | (refine wpAny_ite_false (by first | decide | simp [hi]) ?_; wp_walk using wpAny_loadPart' hl)
      | (refine wpAny_ite_true (by simp) ?_; wp_walk using wpAny_loadPart' hl))
    exact ⟨_, rfl, h⟩
end Pv
set_option Elab.async false
set_option linter.all false
set_option maxRecDepth 100000
set_option maxHeartbeats 4000000
namespace Pv
open PySem PySem.Spec PyProof.Rows L2
/-! ### enumerate of a tuple -/
theorem meets_enum_tup (l : Addr) (items : Array Value) (n : Nat) (dct : Option Addr) (sl : Array (Option Value)) :
    Meets (Builtin.«enumerate.__new__» ⟨[.type "enumerate", .ref l], []⟩) (fun _ R s => s.heap.get? l = some { cls := .type "tuple", dict := dct, data := .seq items n, slots := sl } ∧
      R (.ok (.ret (.ref (s.heap.push { cls := .type "tuple_iterator", data := .fields #[.ref l, .int 0 0] }).objs.size)))
        { s with heap := (s.heap.push { cls := .type "tuple_iterator", data := .fields #[.ref l, .int 0 0] }).push { cls := .type "enumerate", data := .fields #[.none, .bool false, .ref s.heap.objs.size, rawInt 0, .none, .none] } }) :=
  .of_wp fun prog w A R s h => by
    obtain ⟨hp, g, d, tk, os⟩ := s
    obtain ⟨hl, h⟩ := h
    have hsub := sub_enumerate
    have hT : Heap.IsTuple (Shared.heap ⟨hp, g, d, tk, os⟩) l items := ⟨_, hl, rfl, n, rfl⟩
    wp_walk using AutoSeq1.wpAny_loadPart' hl
    refine wpAny_stack_any fun st => wpAny_pure ?_
    split
    · rename_i c _ _ _ _ _
      cases (c == Value.type "enumerate")
      · wp_walk using AutoSeq1.wpAny_loadPart' hl, wpAny_pyIter_tuple hT
        exact ⟨_, rfl, h⟩
      · wp_walk using AutoSeq1.wpAny_loadPart' hl, wpAny_pyIter_tuple hT
        exact ⟨_, rfl, h⟩
    · wp_walk using AutoSeq1.wpAny_loadPart' hl, wpAny_pyIter_tuple hT
      exact ⟨_, rfl, h⟩
theorem call_enum_tup {prog : Program} {w : World} {A : Around} {E : Value → Shared → Prop} {s : Shared} {l : Addr} {items : Array Value} {Q : Value → Shared → Prop} (hL : IsTup s.heap l items)
    (h : ∀ h', IsEnum h' (s.heap.objs.size + 1) s.heap.objs.size 0 .none → h'.IsTupleIter s.heap.objs.size l 0 → h'.objs.size = s.heap.objs.size + 2 →
      (∀ b o, s.heap.get? b = some o → h'.get? b = some o) → Q (.ref (s.heap.objs.size + 1)) { s with heap := h' }) : wpAny (model prog w) A (call (.type "enumerate") [.ref l]) Q E s := by
  obtain ⟨⟨c, dct, dt, sl⟩, hl, hc, n, hd⟩ := hL
  replace hc : c = .type "tuple" := hc
  replace hd : dt = .seq items n := hd
  subst hc hd
  refine callType_new PySem.F.called_enumerate (by decide) (PySem.F.typeCall_enumerate_1 _) (PySem.F.newCall_enumerate_1 _) (fun obj => PySem.F.args_object_init_2 obj _) PySem.F.entry_enumerate_new (meets_enum_tup l items n dct sl) ⟨hl, ?_⟩
  have hz : (s.heap.push { cls := .type "tuple_iterator", data := .fields #[.ref l, .int 0 0] }).objs.size = s.heap.objs.size + 1 := Heap.size_push ..
  show _ ∧ _
  rw [hz]
  have he : IsEnum ((s.heap.push { cls := .type "tuple_iterator", data := .fields #[.ref l, .int 0 0] }).push { cls := .type "enumerate", data := .fields #[.none, .bool false, .ref s.heap.objs.size, rawInt 0, .none, .none] }) (s.heap.objs.size + 1) s.heap.objs.size 0 .none := by
    have q := Heap.get?_push_size (s.heap.push { cls := .type "tuple_iterator", data := .fields #[.ref l, .int 0 0] }) (o := { cls := .type "enumerate", data := .fields #[.none, .bool false, .ref s.heap.objs.size, rawInt 0, .none, .none] }) rfl
    rw [hz] at q
    exact q
  refine ⟨⟨_, he, rfl⟩, h _ he ⟨_, Heap.get?_push_of_some _ (Heap.get?_push_size _ rfl), rfl, rfl⟩ (by rw [Heap.size_push, hz]) fun b o x => Heap.get?_push_of_some _ (Heap.get?_push_of_some _ x)⟩
def IteT (K : PySem.W.Frag) (a : Addr) : It :=
  ⟨fun i H => ∃ (xs : List V) (x : V), SqT K H a xs ∧ xs[i]? = some x, fun i H v H' => ∃ T x, v = .ref T ∧ H T = none ∧ H' = upd H T (.tup [.int (i : Nat), x]) ∧ ∀ xs, SqT K H a xs → xs[i]? = some x, fun i H => ∃ xs : List V, SqT K H a xs ∧ xs.length = i⟩
theorem turn_enumT {P : Program} {w : World} {K : PySem.W.Frag} {elts : List Expr} {kk : Nat} {tpos : Pos} (a e it : Addr) (hai : a ≠ it) (hae : a ≠ e) :
    Turn P w K (.Tuple elts kk tpos) (IteT K a) [e, it] e (fun i h => (∃ old, IsEnum h e it ((i : Nat) : Int) old) ∧ h.IsTupleIter it a i ∧ e ≠ it) where
  mem := by simp
  obj := fun i h st b hb => by
    obtain ⟨⟨old, he⟩, ⟨o, ho, hc, hd⟩, _⟩ := st
    have e' : b = e ∨ b = it := by simpa using hb
    rcases e' with z | z
    · subst z
      exact ⟨_, he, fun v q => nomatch q⟩
    · subst z
      exact ⟨o, ho, fun v q => by rw [hd] at q; cases q⟩
  keep := fun i h h' st k => by
    obtain ⟨⟨old, he⟩, hi, hne⟩ := st
    exact ⟨⟨old, k e (by simp) _ he⟩, hi.at fun o q => k it (by simp) o q, hne⟩
  item := by
    intro X hP hw hK hc i pins s σ H E I hf st hg
    subst hP hw hK
    obtain ⟨⟨old, he⟩, hit, hne⟩ := st
    obtain ⟨xs, x, hq, hx⟩ := hg
    obtain ⟨its, rv, p, hz⟩ := I.tuple hq
    obtain ⟨u, hu, ru⟩ := rv.get hx
    have hel : e < s.heap.objs.size := Heap.lt_size he
    have hil : it < s.heap.objs.size := by
      obtain ⟨_, q, _⟩ := hit
      exact Heap.lt_size q
    have Dr := Draws.tuple (prog := X.prog) (w := X.w) (A := X.A.in1) (I.ok.hd hc) it a hai its.toArray
    have hlt : i < its.toArray.size := by
      have := (List.getElem?_eq_some_iff.mp hu).1
      simpa using this
    refine wpAny_pyNext_enum_itemD Dr he ⟨hit, p⟩ hlt hne (by simp; exact ⟨hne, fun z => hae z.symm⟩) fun x1 h' tk hx1 ho hst hT hsz hk => ?_
    have ex : x1 = u := by
      have h1 : its.toArray[i]? = some u := by simpa using hu
      rw [hx1] at h1
      exact Option.some.inj h1
    subst ex
    refine ⟨_, rfl, wpAny_letOwnedTupleGo_enum (s := { s with heap := h', toks := tk + 1 }) ho fun h'' he' sb => ?_⟩
    have hT2 : h''.get? s.heap.objs.size = some { cls := .type "tuple", data := .seq #[.int i tk, x1] } := (sb.2 _ (Nat.ne_of_gt hel)).trans hT
    have new : ObjOk X.prog X.w (upd H s.heap.objs.size (.tup [.int (i : Nat), x])) h'' s.heap.objs.size (.tup [.int (i : Nat), x]) :=
      ⟨Evl.sz_of (by simp), [.int i tk, x1], .cons ⟨_, rfl⟩ (.cons ru .nil), ⟨_, hT2, rfl, _, rfl⟩⟩
    have I1 : Inv X pins σ (upd H s.heap.objs.size (.tup [.int (i : Nat), x])) { s with heap := h'', toks := tk + 1 } :=
      I.turnedNew (ch := [e, it]) (fun b ob hb q => (sb.2 b (fun z => hb (by simp [z]))).trans (hk b ob (fun z => hb (by simp [z])) (fun z => hb (by simp [z])) q)) hf (Nat.le_refl _) new
    refine ⟨.ref s.heap.objs.size, _, I1, rfl, ⟨_, x, rfl, I.hok.fresh (Nat.le_refl _), rfl, fun ys hy => by rw [I.tuple_inj hy hq]; exact hx⟩, ⟨⟨x1, ?_⟩, hst.1.at fun o q => (sb.2 it (Ne.symm hne)).trans q, hne⟩, fun b hb => ?_⟩
    · have e1 : ((i + 1 : Nat) : Int) = (i : Int) + 1 := by omega
      rw [e1]
      exact he'
    · have hb' : b < s.heap.objs.size := by
        have e' : b = e ∨ b = it := by simpa using hb
        rcases e' with z | z
        · rw [z]
          exact hel
        · rw [z]
          exact hil
      rw [upd_ne (Nat.ne_of_lt hb')]
      exact (hf b hb).1
  done := by
    intro X hP hw hK hc i pins s σ H E I hf st hg
    subst hP hw hK
    obtain ⟨⟨old, he⟩, hit, hne⟩ := st
    obtain ⟨xs, hq, hx⟩ := hg
    obtain ⟨its, rv, p, hz⟩ := I.tuple hq
    obtain ⟨f0, f1, f2, f3, f4, f5⟩ := hf it (by simp)
    have hl := rv.length
    have en : i = its.toArray.size := by
      rw [List.size_toArray, ← hl]
      exact hx.symm
    subst en
    have Dr := Draws.tuple (prog := X.prog) (w := X.w) (A := X.A.in1) (I.ok.hd hc) it a hai its.toArray
    exact wpAny_pyNext_enum_endD Dr he ⟨hit, p⟩ fun h' eb => ⟨rfl, I.turned (t' := s.toks) (fun b o hb q => eb b o hb q) f0 f1 f3 f4 f5⟩
  self := fun A i s Q E st h => by
    obtain ⟨⟨_, he⟩, _⟩ := st
    exact wpAny_pyIter_enum he h
def iEnumT (K : PySem.W.Frag) (ta : TA) : TI := fun σ H R => ta σ H fun vs H1 => ∃ a xs, vs = [.ref a] ∧ SqT K H1 a xs ∧ R (IteT K a) H1
theorem pi_enumT {X : Cx} {e : Expr} {ta : TA} {p pos tpos : Pos} {elts : List Expr} {kk : Nat} (hg : Gl X "enumerate") (hm : X.mg "enumerate" = none) (ha : PA X [e] ta) (hs : starEach [e] X.env = [(false, eval e X.env)]) :
    PI X (.Tuple elts kk tpos) (.Call (.Name "enumerate" p) [e] [] pos) (iEnumT X.K ta) := by
  refine ⟨fun pins s σ H R I h => ?_⟩
  refine Call_ (ld_blt I hg hm boot_enumerate (callWith_type1 (thn (ha.run pos pins s σ H _ I h) fun us s1 ⟨vs, H1, I1, r1, q1⟩ => ?_) hs rfl))
  obtain ⟨a, xs, ex, hq, q⟩ := q1
  subst ex
  obtain ⟨u, rfl, r⟩ := vals1 r1
  cases r
  obtain ⟨its, rv, p', hz⟩ := I1.tuple hq
  have hal : a < s1.heap.objs.size := p'.lt
  refine call_enum_tup p' fun h' he hit hsz hk => wpAny_pyIter_enum he ?_
  have I2 : Inv X pins σ H1 { s1 with heap := h' } := I1.kept (t' := s1.toks) hk
  refine ⟨s1.heap.objs.size + 1, [s1.heap.objs.size + 1, s1.heap.objs.size], _, _, H1, rfl, I2, turn_enumT a (s1.heap.objs.size + 1) s1.heap.objs.size (Nat.ne_of_lt hal) (Nat.ne_of_lt (Nat.lt_succ_of_lt hal)), ⟨⟨.none, he⟩, hit, Nat.succ_ne_self _⟩, fun b hb => ?_, q⟩
  have e' : b = s1.heap.objs.size + 1 ∨ b = s1.heap.objs.size := by simpa using hb
  have hle : s1.heap.objs.size ≤ b := by
    rcases e' with z | z <;> rw [z]
    · exact Nat.le_add_right _ _
    · exact Nat.le_refl _
  exact I1.fpOk hle (I1.hok.fresh hle)
/-! ### a tuple so many times -/
def rRepA (K : PySem.W.Frag) : R2 := fun x y H Q => ∃ l k xs, x = .ref l ∧ y = .int k ∧ SqT K H l xs ∧ xs ≠ [] ∧ 0 ≤ k ∧ k ≤ 1000 ∧ xs.length ≤ 1000 ∧ (k = 1 → Q (.ref l) H) ∧ (k ≠ 1 → ∀ p, H p = none → Q (.ref p) (upd H p (.tup (List.replicate k.toNat xs).flatten)))
theorem op_repA {X : Cx} : OpR X (binaryOp .Mult) (rRepA X.K) := by
  intro pins s σ H x y v u Q I rx ry h
  obtain ⟨l, k, xs, rfl, rfl, hT, hne, h1, h2, hz, q1, q2⟩ := h
  by_cases hk : 2 ≤ k
  · exact op_repT pins s σ H _ _ v u Q I rx ry ⟨l, k, xs, rfl, rfl, hT, hne, hk, h2, hz, q2 (by omega)⟩
  · cases rx
    obtain ⟨t, rfl⟩ := ry
    obtain ⟨its, r, ⟨⟨cls, dd, data, sl⟩, ho, hc, n, hd⟩, hs⟩ := I.tuple hT
    simp only at hc hd
    subst hc hd
    have hle : its.length = xs.length := r.length.symm
    have hi : its.toArray.isEmpty = false := by
      cases its with
      | nil => exact absurd (List.eq_nil_of_length_eq_zero (by simpa using hle.symm)) hne
      | cons a b => rfl
    by_cases k1 : k = 1
    · subst k1
      exact wpAny_binaryOp_repeat_ref (T := "tuple") (U := "int") (by decide) ⟨_, ho, rfl⟩ (fun s' => typeIs_int s' 1 t) noFill_tuple_mul PySem.F.fills_int_mul PySem.F.slot_int_rmul repeat_tuple PySem.F.slot_int_index.lookup
        (PySem.call_meets PySem.F.slot_int_rmul (typeIs_int s 1 t) PySem.F.entry_int_rmul (PySem.F.args_int_rmul_2 _ _) (int_rmul_tuple 1 t l its.toArray n dd sl)
          ⟨ho, rfl, ⟨_, ho, rfl⟩, PySem.call_meets PySem.F.slot_tuple_mul ⟨_, ho, rfl⟩ PySem.F.entry_tuple_mul (PySem.F.args_tuple_mul_2 _ _) (tuple_mul1 l its.toArray n dd sl t) ⟨ho, ⟨.ref l, H, I, rfl, q1 rfl⟩⟩⟩)
    · have k0 : k = 0 := by omega
      subst k0
      refine wpAny_binaryOp_repeat_ref (T := "tuple") (U := "int") (by decide) ⟨_, ho, rfl⟩ (fun s' => typeIs_int s' 0 t) noFill_tuple_mul PySem.F.fills_int_mul PySem.F.slot_int_rmul repeat_tuple PySem.F.slot_int_index.lookup
        (PySem.call_meets PySem.F.slot_int_rmul (typeIs_int s 0 t) PySem.F.entry_int_rmul (PySem.F.args_int_rmul_2 _ _) (int_rmul_tuple 0 t l its.toArray n dd sl)
          ⟨ho, rfl, ⟨_, ho, rfl⟩, PySem.call_meets PySem.F.slot_tuple_mul ⟨_, ho, rfl⟩ PySem.F.entry_tuple_mul (PySem.F.args_tuple_mul_2 _ _) (tuple_mul0 l its.toArray n dd sl t hi) ⟨ho, ?_⟩⟩)
      refine ⟨.ref s.heap.objs.size, _, I.laid (t' := s.toks) (o := .tup (List.replicate (0 : Int).toNat xs).flatten) (fun b ob q => Heap.get?_push_of_some _ q) (Nat.le_refl _) ?_, rfl, q2 (by omega) _ (I.hok.fresh (Nat.le_refl _))⟩
      exact ⟨Nat.zero_le _, [], .nil, IsTup.new s.heap #[]⟩
end Pv
set_option Elab.async false
set_option linter.all false
set_option maxRecDepth 100000
set_option maxHeartbeats 4000000
namespace Pv
open PySem PySem.Spec PyProof.Rows L2
section
variable {m : Mode} {Y : Fam} {σ : L2.St} {W W' : Wd} {i j k l : m.ι} {e a b c tg iter key : Expr} {es : List Expr} {rest body : List Stmt} {pos p p' ap cp : Pos} {x y z : Sv} {d d' : PD} {ds : List PD} {kvs : List (Key × PD)} {u v : Bool} {D : Ends} {s : Str} {n : Nat} {q : Addr}
theorem ei_enumT {elts : List Expr} {q : Nat} {tp : Pos} (B : BI Y "enumerate" (.type "enumerate")) (ha : E m Y σ W i a (.d (.tuple ds)) j)
    (hs : ∀ c, starEach [a] (Y.X c).env = [(false, eval a (Y.X c).env)] := by intro _; rfl) :
    EI m Y σ W i (.Tuple elts q tp) (.Call (.Name "enumerate" p) [a] [] pos) ds.length (itP Y.K fun n d1 d2 => d1 = .int (n : Int) ∧ ds[n]? = some d2) j := fun U l r Z z =>
  ⟨iEnumT Y.K (wA Y [a]), fun c => by
    have h := pi_enumT (X := Y.X c) (tpos := tp) (elts := elts) (kk := q) (p := p) (pos := pos) (B.g.gl c) (by rw [Y.hmg]; exact B.m) (wA_ok (es := [a]) c) (hs c)
    rw [Y.hK c] at h
    exact h, ea_cons ha ea_nil (fun c => by rw [hs c]; rfl) U l r _ fun vs T l1 r1 p1 => by
    obtain ⟨v, rfl, hv⟩ := p1.inv1
    obtain ⟨a1, vs1, rfl, e2, e3⟩ := Is.tup hv
    refine ⟨a1, vs1, rfl, sqT_sub T e2, z _ T l1 r1 ⟨fun T' hf => ⟨vs1, sqT_sub T' (Evl.ex_t hf e2), e3.len⟩, fun n hn T' hf => ?_⟩⟩
    have q1 : SqT Y.K T'.H a1 vs1 := sqT_sub T' (Evl.ex_t hf e2)
    have h1 : n < vs1.length := by rw [e3.len]; exact hn
    refine ⟨⟨vs1, vs1[n], q1, by simp [h1]⟩, fun x H' ⟨t, x2, ex, ht, hH, g2⟩ => ?_⟩
    subst ex hH
    obtain ⟨d2, w3, w4⟩ := e3.get (g2 vs1 q1)
    have up := upd_none (o := .tup [.int (n : Nat), x2]) (T'.fnone ht)
    exact ⟨T'.frz t _ ht, rfl, Le.frz ht, t, _, x2, _, d2, rfl, SqT.of upd_same, Dp.int _, (w4.mono hf).mono up, rfl, w3⟩⟩
/-- sorted of a dict by its keys -/
theorem cSortK (a : Y.α) : CallR (Y.X a) (.builtin "sorted") (fun xs H Q => ∃ (a : Addr) (kvs : List (Key × V)) (ks : List Int), xs = [.ref a] ∧ Rd H a (.dK kvs) ∧ kvs.map (·.1) = ks.map Sum.inl ∧
    ∀ (ys : List Int) (p : Addr), ys.Perm ks → ys.Pairwise (· ≤ ·) → H p = none → Q (.ref p) (upd H p (.lst (ys.map V.int)))) := call_sortedKeys (Y.hc a)
theorem el_sortedD {ks ns : List Int} (B : BI Y "sorted" (.builtin "sorted")) (ha : ERd m Y σ W i e kvs j) (hk : kvs.map (·.1) = ks.map Sum.inl) (hp : ns.Perm ks) (hs : ns.Pairwise (· ≤ ·))
    (he : ∀ a, starEach [e] (Y.X a).env = (false, eval e (Y.X a).env) :: starEach [] (Y.X a).env := by intro _; rfl) (hpl : ∀ a, (backTo pos (starEach [] (Y.X a).env)).any (·.1) = false := by intro _; rfl) :
    EL m Y σ W i (.Call (.Name "sorted" p) [e] [] pos) (ns.map .int) j := fun U h1 r Q z =>
  ⟨_, fun t => pe_callB (cSortK t) (B.g.gl t) (by rw [Y.hmg]; exact B.m) B.v (pa_cons (wE_ok (e := e) t) pa_nil (he t)) (by decide) (by decide) (he t) (hpl t), ha U h1 r _ fun v T l1 r1 ⟨q, vs, e1, e2, e3⟩ => by
    subst e1
    refine ⟨q, vs, ks, rfl, Rd.of (e2 T (Le.refl T)), e3.keys.trans hk, fun ys p g1 g2 g3 => ?_⟩
    have e5 : ys = ns := sorted_unique (g1.trans hp.symm) g2 hs
    subst e5
    exact z (.ref p) (T.own p _ g3) (l1.trans (Le.own g3)) (m.le0 r1 (Le.own g3)) ⟨p, _, rfl, l1.back g3, T.fnone g3, upd_same, dpInts _⟩⟩
/-- tuple of a list, the object known -/
theorem e_tupP (B : BI Y "tuple" (.type "tuple")) (ha : ERl m Y σ W i e ds j) (he : ∀ a, starEach [e] (Y.X a).env = (false, eval e (Y.X a).env) :: starEach [] (Y.X a).env := by intro _; rfl) (hpl : ∀ a, (backTo pos (starEach [] (Y.X a).env)).any (·.1) = false := by intro _; rfl) :
    E m Y σ W i (.Call (.Name "tuple" p) [e] [] pos) (.pt ds) j := fun U h1 r Q z =>
  ⟨tCB (fun xs H Q => ∃ p ys, xs = [.ref p] ∧ SqL Y.K H p ys ∧ ∀ l ob, ob.cls = .type "tuple" → ob.dict = none → H l = none → Q (.ref l) (upd H l (.frz ob (.tup ys)))) (tCons (wE Y e) tNil), fun t => pe_callTy (by
    have h := call_tupleP (X := Y.X t)
    rw [Y.hK t] at h
    exact h) (B.g.gl t) (by rw [Y.hmg]; exact B.m) B.v (pa_cons (wE_ok t) pa_nil (he t)) (by decide) (by decide) (he t) (hpl t), ha U h1 r _ fun v T l1 r1 ⟨q, vs, e1, e2, e3⟩ => by
    subst e1
    refine ⟨q, vs, rfl, e2 T (Le.refl T), fun l ob hc hd hl => ?_⟩
    exact z (.ref l) (T.frz l _ hl) (l1.trans (Le.frz hl)) (m.le0 r1 (Le.frz hl)) ⟨l, ob, vs, rfl, upd_same, hc, hd, e3.mono (upd_none (T.fnone hl))⟩⟩
theorem E.ptT (h : E m Y σ W i e (.pt ds) j) : E m Y σ W i e (.d (.tuple ds)) j := EG.imp h fun _ _ _ _ _ _ _ q => q.pt
/-- way.count(n) -/
theorem e_count {ns : List Int} {g : Int} {o : Expr} (ho : E m Y σ W i o (.pt (ns.map .int)) j) (ha : E m Y σ W j e (.d (.int g)) k)
    (hbase : ∀ a, attributeBase o "count" (Y.X a).env (eval o (Y.X a).env) = eval o (Y.X a).env := by intro _; rfl)
    (hfew : ∀ a, ((backTo cp (starEach [e] (Y.X a).env)).all (fun x => !x.1) && (backToKw cp (keywordEach [] (Y.X a).env)).all (fun x => x.1.isSome) && decide ([e].length + ([] : List Keyword).length + (if ([] : List Keyword).isEmpty then 0 else 1) < 30)) = true := by intro _; rfl)
    (hline : (ap.endLine == cp.line) = true := by rfl) (hst : ∀ a, starEach [e] (Y.X a).env = (false, eval e (Y.X a).env) :: starEach [] (Y.X a).env := by intro _; rfl) (hpl : ∀ a, (backTo cp (starEach [] (Y.X a).env)).any (·.1) = false := by intro _; rfl) :
    E m Y σ W i (.Call (.Attribute o "count" ap) [e] [] cp) (.d (.int (ns.count g : Nat))) k := fun U h1 r Q z =>
  ⟨_, fun a => pe_tcount (wE_ok a) (pa_cons (wE_ok a) pa_nil (hst a)) (hbase a) (hfew a) hline (hst a) (hpl a), ho U h1 r _ fun v T l1 r1 ⟨q, ob, vs, e1, e2, e3, e4, e5⟩ => by
    have e6 := e5.ints
    subst e6
    refine ⟨q, ob, ns, e1, T.sub _ _ e2, e3, e4, ?_⟩
    refine ha T (h1.trans l1) r1 _ fun v2 T2 l2 r2 p2 => ⟨g, by rw [p2.int], T2.sub _ _ (l2.f _ _ e2), ?_⟩
    exact z _ T2 (l1.trans l2) r2 (Dp.int _)⟩
/-- t[::-1] -/
theorem e_revT {q' : Nat} {p1 p2 p3 : Pos} (ha : E m Y σ W i a (.d (.tuple ds)) j) : E m Y σ W i (.Subscript a (.Slice none none (some (.UnaryOp .USub (.Constant (.int 1) q' p1) p2)) p3) pos) (.d (.tuple ds.reverse)) j := fun U le r Q z =>
  ⟨tRevT Y.K (wE Y a), fun t => by
    have h := pe_revT (X := Y.X t) (k := q') (p1 := p1) (p2 := p2) (p3 := p3) (pos := pos) (wE_ok (e := a) t)
    rw [Y.hK t] at h
    exact h, ha U le r _ fun v1 T l1 r1 p1 => by
    obtain ⟨q, vs, e1, e2, e3⟩ := Is.tup p1
    refine ⟨q, vs, e1, sqT_sub T e2, fun p hp => ?_⟩
    exact z (.ref p) (T.frz p _ hp) (l1.trans (Le.frz hp)) (m.le0 r1 (Le.frz hp)) (Dp.tup (SqT.of upd_same) ((e3.rev).mono (upd_none (T.fnone hp))))⟩
/-- t * n -/
theorem DpAll.rep {K : PySem.W.Frag} {F : Hp} {vs : List V} (h : DpAll K F vs ds) : ∀ k : Nat, DpAll K F (List.replicate k vs).flatten (List.replicate k ds).flatten
  | 0 => .nil
  | k + 1 => by
    rw [List.replicate_succ, List.replicate_succ, List.flatten_cons, List.flatten_cons]
    exact h.app (DpAll.rep h k)
theorem e_mulT {g : Int} (ha : E m Y σ W i a (.d (.tuple ds)) j) (hb : E m Y σ W j b (.d (.int g)) k) (hne : ds ≠ []) (h0 : 0 ≤ g ∧ g ≤ 1000) (hl : ds.length ≤ 1000) : E m Y σ W i (.BinOp a .Mult b pos) (.d (.tuple (List.replicate g.toNat ds).flatten)) k := fun U l r Q z =>
  ⟨tOp (rRepA Y.K) _ _, fun t => pe_op (by have h := op_repA (X := Y.X t); rw [Y.hK t] at h; exact h) (wE_ok t) (wE_ok t), ha U l r _ fun v1 T1 l1 r1 p1 => hb T1 (l.trans l1) r1 _ fun v2 T2 l2 r2 p2 => by
    obtain ⟨q, vs, e1, e2, e3⟩ := Is.tup p1
    have sq : SqT Y.K T2.F q vs := Evl.ex_t l2.f e2
    refine ⟨q, g, vs, e1, p2.int, sqT_sub T2 sq, fun w => hne ?_, h0.1, h0.2, by rw [e3.len]; exact hl, fun h1 => ?_, fun h1 p hp => ?_⟩
    · have := e3.len
      rw [w] at this
      exact List.eq_nil_of_length_eq_zero this.symm
    · subst h1
      refine z _ T2 (l1.trans l2) r2 ?_
      show Dp Y.K T2.F (V.ref q) (.tuple (List.replicate 1 ds).flatten)
      rw [List.replicate_one, List.flatten_singleton]
      exact Dp.tup sq (e3.mono l2.f)
    · exact z (.ref p) (T2.frz p _ hp) ((l1.trans l2).trans (Le.frz hp)) (m.le0 r2 (Le.frz hp)) (Dp.tup (SqT.of upd_same) ((DpAll.rep (e3.mono l2.f) _).mono (upd_none (T2.fnone hp))))⟩
/-- t + u -/
theorem e_catT {es' : List PD} (ha : E m Y σ W i a (.d (.tuple ds)) j) (hb : E m Y σ W j b (.d (.tuple es')) k) (hl : ds.length + es'.length ≤ 100000) : E m Y σ W i (.BinOp a .Add b pos) (.d (.tuple (ds ++ es'))) k := fun U l r Q z =>
  ⟨tOp (rCatA Y.K) _ _, fun t => pe_op (by have h := op_catA (X := Y.X t); rw [Y.hK t] at h; exact h) (wE_ok t) (wE_ok t), ha U l r _ fun v1 T1 l1 r1 p1 => hb T1 (l.trans l1) r1 _ fun v2 T2 l2 r2 p2 => by
    obtain ⟨q, vs, e1, e2, e3⟩ := Is.tup p1
    obtain ⟨q2, us, f1, f2, f3⟩ := Is.tup p2
    have sq : SqT Y.K T2.F q vs := Evl.ex_t l2.f e2
    have hd := e3.mono l2.f
    refine ⟨q, q2, vs, us, e1, f1, sqT_sub T2 sq, sqT_sub T2 f2, Evl.sz_of (by rw [e3.len, f3.len]; exact hl), fun h => ?_, fun _ h => ?_, fun _ _ p hp => ?_⟩
    · subst h
      cases hd
      exact z _ T2 (l1.trans l2) r2 (Dp.tup f2 f3)
    · subst h
      cases f3
      refine z _ T2 (l1.trans l2) r2 ?_
      show Dp Y.K T2.F (V.ref q) (.tuple (ds ++ []))
      rw [List.append_nil]
      exact Dp.tup sq hd
    · exact z (.ref p) (T2.frz p _ hp) ((l1.trans l2).trans (Le.frz hp)) (m.le0 r2 (Le.frz hp)) (Dp.tup (SqT.of upd_same) ((hd.app f3).mono (upd_none (T2.fnone hp))))⟩
/-- dict of a list of pairs (whole number, value), no number twice -/
theorem mergeK_fresh : ∀ (more kvs : List (Key × V)), ((kvs ++ more).map (·.1)).Nodup → mergeK kvs more = kvs ++ more
  | [], kvs, _ => by rw [List.append_nil]; rfl
  | p :: more, kvs, h => by
    show mergeK (putK kvs p.1 p.2) more = _
    have hn : valV kvs p.1 = none := by
      cases e : valV kvs p.1 with
      | none => rfl
      | some w =>
        have e2 : (kvs.any fun kv => decide (kv.1 = p.1)) = true := by
          rw [valV_any, e]
          rfl
        obtain ⟨r, hr, hq⟩ := List.any_eq_true.mp e2
        rw [List.map_append, List.nodup_append] at h
        exact absurd (of_decide_eq_true hq) (h.2.2 r.1 (List.mem_map.mpr ⟨r, hr, rfl⟩) p.1 (by simp))
    rw [putK_new _ hn, mergeK_fresh more (kvs ++ [(p.1, p.2)]) (by simpa using h)]
    simp
theorem pairs_back {K : PySem.W.Frag} {F : Hp} {g : Int → PD} : ∀ {ns : List Int} {vs : List V}, DpAll K F vs (ns.map fun n => .tuple [.int n, g n]) →
    ∃ (ps : List Addr) (kvs : List (Key × V)), vs = ps.map V.ref ∧ Paired (fun p kv => SqT K F p [kV kv.1, kv.2]) ps kvs ∧ KVD K F kvs (ns.map fun n => (.inl n, g n))
  | [], _, .nil => ⟨[], [], rfl, .nil, .nil⟩
  | n :: ns, _, .cons a b => by
    obtain ⟨ps, kvs, h1, h2, h3⟩ := pairs_back (ns := ns) b
    obtain ⟨q, us, e1, e2, e3⟩ := Is.tup a
    cases e3 with
    | cons w1 w2 =>
      cases w2 with
      | cons w3 w4 =>
        cases w4
        cases w1
        subst e1 h1
        exact ⟨q :: ps, (.inl n, _) :: kvs, rfl, .cons e2 h2, .cons ⟨rfl, w3⟩ h3⟩
theorem cDict (a : Y.α) : CallR (Y.X a) (.type "dict") (fun xs H Q => ∃ (a : Addr) (ps : List Addr) (kvs : List (Key × V)), xs = [.ref a] ∧ SqL Y.K H a (ps.map V.ref) ∧ Paired (fun p kv => SqT Y.K H p [kV kv.1, kv.2]) ps kvs ∧
    ∀ p, H p = none → Q (.ref p) (upd H p (.dK (mergeK [] kvs)))) := by
  have h := call_dictP (X := Y.X a) (Y.hc a)
  rw [Y.hK a] at h
  exact h
theorem ed_dict {ns : List Int} {g : Int → PD} (B : BI Y "dict" (.type "dict")) (ha : ERl m Y σ W i e (ns.map fun n => .tuple [.int n, g n]) j) (hn : ns.Nodup)
    (he : ∀ a, starEach [e] (Y.X a).env = (false, eval e (Y.X a).env) :: starEach [] (Y.X a).env := by intro _; rfl) (hpl : ∀ a, (backTo pos (starEach [] (Y.X a).env)).any (·.1) = false := by intro _; rfl) :
    ED m Y σ W i (.Call (.Name "dict" p) [e] [] pos) (ns.map fun n => (.inl n, g n)) j := fun U h1 r Q z =>
  ⟨_, fun t => pe_callTy (cDict t) (B.g.gl t) (by rw [Y.hmg]; exact B.m) B.v (pa_cons (wE_ok (e := e) t) pa_nil (he t)) (by decide) (by decide) (he t) (hpl t), ha U h1 r _ fun v T l1 r1 ⟨q, vs, e1, e2, e3⟩ => by
    subst e1
    obtain ⟨ps, kvs, g1, g2, g3⟩ := pairs_back e3
    subst g1
    refine ⟨q, ps, kvs, rfl, e2 T (Le.refl T), Paired.mapP g2 fun p kv h => sqT_sub T h, fun p hp => ?_⟩
    have ek : kvs.map (·.1) = ns.map Sum.inl := by
      rw [g3.keys, List.map_map]
      rfl
    have em : mergeK [] kvs = kvs := by
      have := mergeK_fresh kvs [] (by rw [List.nil_append, ek]; exact List.Pairwise.map _ (fun a b hab hc => hab (Sum.inl.inj hc)) hn)
      rw [this, List.nil_append]
    rw [em]
    exact z (.ref p) (T.own p _ hp) (l1.trans (Le.own hp)) (m.le0 r1 (Le.own hp)) ⟨p, _, rfl, l1.back hp, T.fnone hp, upd_same, g3⟩⟩
/-- arguments by words on each value -/
def EAG (m : Mode) (Y : Fam) (σ : L2.St) (W : Wd) (i : m.ι) (es : List Expr) (P : Wd → List V → Wd → Prop) (j : m.ι) : Prop :=
  ∀ U, Le m.M W U → m.R i U → ∀ Q : List V → Hp → Prop, (∀ vs T, Le m.M U T → m.R j T → P U vs T → Q vs T.H) → wA Y es σ U.H Q
theorem eg_nil : EAG m Y σ W i [] (fun _ vs _ => vs = []) i := fun U _ r Q q => ⟨tNil, fun _ => pa_nil, q [] U (Le.refl U) r rfl⟩
theorem eg_cons {P : Wd → V → Wd → Prop} {P' : Wd → List V → Wd → Prop} (ha : EG m Y σ W i e P j) (hb : EAG m Y σ W j es P' k)
    (hs : ∀ a, starEach (e :: es) (Y.X a).env = (false, eval e (Y.X a).env) :: starEach es (Y.X a).env := by intro _; rfl) :
    EAG m Y σ W i (e :: es) (fun U vs T => ∃ v r T1, vs = v :: r ∧ Le m.M U T1 ∧ P U v T1 ∧ Le m.M T1 T ∧ P' T1 r T) k := fun U h1 r Q q =>
  ⟨_, fun a => pa_cons (wE_ok a) (wA_ok a) (hs a), ha U h1 r _ fun v T1 l1 r1 p1 => hb T1 (h1.trans l1) r1 _ fun vs T2 l2 r2 p2 => q (v :: vs) T2 (l1.trans l2) r2 ⟨v, vs, T1, rfl, l1, p1, l2, p2⟩⟩
/-- a, b, c = x, y, z, plain locals -/
theorem s_par3G {s1 s2 s3 : Str} {n1 n2 n3 q1 q2 : Nat} {a b c : Expr} {px py pz pt pt2 : Pos} {P : Wd → List V → Wd → Prop} (ha : EAG m Y σ W i [a, b, c] P j) (r : m.R i W)
    (hi : Y.N[n1]? = some s1) (hj : Y.N[n2]? = some s2) (hl : Y.N[n3]? = some s3) (h12 : n1 ≠ n2) (h13 : n1 ≠ n3) (h23 : n2 ≠ n3) (hx : Y.sc.names.lookup s1 = some .local) (hy : Y.sc.names.lookup s2 = some .local) (hz : Y.sc.names.lookup s3 = some .local)
    (k : ∀ vs T, Le m.M W T → m.R j T → P W vs T → ∃ v1 v2 v3, vs = [v1, v2, v3] ∧ wSs Y rest D (((σ.set n1 (some v1)).set n2 (some v2)).set n3 (some v3)) T.H)
    (hw : ∀ t, swappedStores [.Tuple [.Name s1 px, .Name s2 py, .Name s3 pz] q1 pt] (.Tuple [a, b, c] q2 pt2) (Y.X t).env = pure (some [s1, s2, s3]) := by intro _; rfl)
    (hs : ∀ t, swapsWithSole [.Tuple [.Name s1 px, .Name s2 py, .Name s3 pz] q1 pt] (.Tuple [a, b, c] q2 pt2) p.line (Y.X t).env = pure false := by intro _; rfl) :
    wSs Y (.Assign [.Tuple [.Name s1 px, .Name s2 py, .Name s3 pz] q1 pt] (.Tuple [a, b, c] q2 pt2) p :: rest) D σ W.H :=
  ⟨_, fun t => pss_cons (ps_par3 (Y.hc t) (by rw [Y.hN]; exact Y.nd) (by rw [Y.hN]; exact hi) (by rw [Y.hN]; exact hj) (by rw [Y.hN]; exact hl) h12 h13 h23 (by rw [Y.hsc]; exact hx) (by rw [Y.hsc]; exact hy) (by rw [Y.hsc]; exact hz) (wA_ok t) (hw t) (hs t)) (wSs_ok t),
    ha W (Le.refl W) r _ fun vs T l1 r1 p1 => k vs T l1 r1 p1⟩
theorem s_par2G {s1 s2 : Str} {n1 n2 q1 q2 : Nat} {a b : Expr} {px py pt pt2 : Pos} {P : Wd → List V → Wd → Prop} (ha : EAG m Y σ W i [a, b] P j) (r : m.R i W) (hi : Y.N[n1]? = some s1) (hj : Y.N[n2]? = some s2) (hij : n1 ≠ n2)
    (hx : Y.sc.names.lookup s1 = some .local) (hy : Y.sc.names.lookup s2 = some .local) (k : ∀ vs T, Le m.M W T → m.R j T → P W vs T → ∃ v1 v2, vs = [v1, v2] ∧ wSs Y rest D ((σ.set n1 (some v1)).set n2 (some v2)) T.H)
    (hw : ∀ c, swappedStores [.Tuple [.Name s1 px, .Name s2 py] q1 pt] (.Tuple [a, b] q2 pt2) (Y.X c).env = pure (some [s1, s2]) := by intro _; rfl)
    (hs : ∀ c, swapsWithSole [.Tuple [.Name s1 px, .Name s2 py] q1 pt] (.Tuple [a, b] q2 pt2) p.line (Y.X c).env = pure false := by intro _; rfl) :
    wSs Y (.Assign [.Tuple [.Name s1 px, .Name s2 py] q1 pt] (.Tuple [a, b] q2 pt2) p :: rest) D σ W.H :=
  ⟨_, fun c => pss_cons (ps_par (Y.hc c) (by rw [Y.hN]; exact Y.nd) (by rw [Y.hN]; exact hi) (by rw [Y.hN]; exact hj) hij (by rw [Y.hsc]; exact hx) (by rw [Y.hsc]; exact hy) (wA_ok c) (hw c) (hs c)) (wSs_ok c),
    ha W (Le.refl W) r _ fun vs T l1 r1 p1 => k vs T l1 r1 p1⟩
/-- == of texts -/
theorem c_eqs {t1 t2 : Str} (ha : E m Y σ W i a (.d (.str t1)) j) (hb : E m Y σ W j b (.d (.str t2)) k) : EC m Y σ W i (.Compare a [.Eq] [b] pos) (decide (t1 = t2)) k := fun U h1 r Q z =>
  ⟨_, fun a => cmpR op_eq (wE_ok a) (wE_ok a) (nomark _), ha U h1 r _ fun v1 T1 l1 r1 p1 => hb T1 (h1.trans l1) r1 _ fun v2 T2 l2 r2 p2 => by
    rw [p1.str, p2.str]
    refine ⟨rfl, ?_⟩
    have e : decide (V.str t1 = V.str t2) = decide (t1 = t2) := by
      by_cases h : t1 = t2 <;> simp [h]
    rw [e]
    exact z _ T2 (l1.trans l2) r2 (Dp.bl _)⟩
theorem c_nes {t1 t2 : Str} (ha : E m Y σ W i a (.d (.str t1)) j) (hb : E m Y σ W j b (.d (.str t2)) k) : EC m Y σ W i (.Compare a [.NotEq] [b] pos) (!decide (t1 = t2)) k := fun U h1 r Q z =>
  ⟨_, fun a => cmpR op_ne (wE_ok a) (wE_ok a) (nomark _), ha U h1 r _ fun v1 T1 l1 r1 p1 => hb T1 (h1.trans l1) r1 _ fun v2 T2 l2 r2 p2 => by
    rw [p1.str, p2.str]
    refine ⟨rfl, ?_⟩
    have e : decide (V.str t1 = V.str t2) = decide (t1 = t2) := by
      by_cases h : t1 = t2 <;> simp [h]
    rw [e]
    exact z _ T2 (l1.trans l2) r2 (Dp.bl _)⟩
end
end Pv
set_option Elab.async false
set_option linter.all false
set_option maxRecDepth 100000
set_option maxHeartbeats 4000000
namespace Pv
open PySem PySem.Spec PyProof.Rows L2
/-- a pure def, by its body -/
theorem fnPure {P : Program} {w : World} {K : PySem.W.Frag} {mg : Str → Option Value} {base : Heap} {x : Str} {st : Stmt} {f : Addr} {fd : FuncData} {N ps : List Str} {k : Nat} {R : List Sv → Sv → Prop} (F : FnD K x st f fd) (S : FnScope N ps (defScope st))
    (hl : ∀ xs y, R xs y → xs.length = ps.length)
    (hbody : ∀ (cdv : Value) (A : Around) (outer : List Env) (s : Shared) (H : Hp) (hr : RoomG k (A.deeper (envOfC x (defScope st) s.heap.objs.size f cdv))) (vs : List V) (W : Wd) (xs : List Sv) (y : Sv), AllIs K W.F vs xs → R xs y → ∀ D : Ends, (∀ v T, Le M0 W T → Is K T.F v y → D.rt v T.H) → (y = .d .none → ∀ σ T, Le M0 W T → D.nx σ T.H) →
      wSs (dFam P w K mg base N S.nd x (defScope st) f cdv A outer s H k hr) (defBody st) D (L2.start N vs) W.H) : FnG P w K mg base (k + 1) f fd ps (pureSp K R) :=
  fnG_of F S (fun vs H Q ⟨W, xs, y, _, ha, hR, _⟩ => ha.len.trans (hl xs y hR)) fun cdv A outer s H hr vs Q ⟨W, xs, y, hW, ha, hR, q⟩ => by
    subst hW
    refine hbody cdv A outer s W.H hr vs W xs y ha hR _ q ?_
    intro hy σ T l
    subst hy
    exact q .non T l Dp.non
/-- a def of the module -/
structure Fd (K : PySem.W.Frag) (mg : Str → Option Value) (s : Str) (st : Stmt) : Prop where
  ex : ∃ f fd, mg s = some (.ref f) ∧ FnD K s st f fd
abbrev fnOfS (s : Str) (st : Stmt) (kV doc pm : Value) (an : Option Addr) (cdv ct : Value) : FuncData := PySem.W.fnOf s s (defArgs st) (defBody st) (defScope st) .none kV doc pm an cdv ct
def BindOk (s : Str) (st : Stmt) (ps : List Str) : Prop := ∀ (kV doc pm : Value) (an : Option Addr) (cdv ct : Value) (us : List Value), us.length = ps.length → bindArgs (fnOfS s st kV doc pm an cdv ct) ⟨us, []⟩ = pure (ps.zip us)
def KwOk (s : Str) (st : Stmt) (ps ks : List Str) (ix : List Nat) : Prop := ∀ (kV doc pm : Value) (an : Option Addr) (cdv ct : Value) (us : List Value), us.length = ks.length → bindArgs (fnOfS s st kV doc pm an cdv ct) ⟨[], ks.zip us⟩ = pure (ps.zip (pickL ix us))
/-- a def that keeps its promise -/
structure Cl (P : Program) (w : World) (K : PySem.W.Frag) (mg : Str → Option Value) (base : Heap) (k : Nat) (s : Str) (st : Stmt) (ps : List Str) (sp : Spg) : Prop where
  b : BindOk s st ps
  ex : ∃ f fd, mg s = some (.ref f) ∧ FnD K s st f fd ∧ FnG P w K mg base k f fd ps sp
theorem Cl.of {P : Program} {w : World} {K : PySem.W.Frag} {mg : Str → Option Value} {base : Heap} {k : Nat} {s : Str} {st : Stmt} {ps : List Str} {sp : Spg} (F : Fd K mg s st) (b : BindOk s st ps) (h : ∀ f fd, FnD K s st f fd → FnG P w K mg base k f fd ps sp) : Cl P w K mg base k s st ps sp := by
  obtain ⟨f, fd, h1, h2⟩ := F.ex
  exact ⟨b, f, fd, h1, h2, h f fd h2⟩
theorem Cl.mono {P : Program} {w : World} {K : PySem.W.Frag} {mg : Str → Option Value} {base : Heap} {k k' : Nat} {s : Str} {st : Stmt} {ps : List Str} {sp : Spg} (C : Cl P w K mg base k s st ps sp) (h : k ≤ k') : Cl P w K mg base k' s st ps sp := by
  obtain ⟨f, fd, h1, h2, h3⟩ := C.ex
  exact ⟨C.b, f, fd, h1, h2, h3.mono h⟩
section
variable {m : Mode} {Y : Fam} {σ : L2.St} {W W' : Wd} {i j k l : m.ι} {e a b c : Expr} {es : List Expr} {rest body : List Stmt} {pos p p' : Pos} {x y z : Sv} {d d' : PD} {ds : List PD} {u v : Bool} {D : Ends} {s : Str} {n : Nat}
theorem kwBinds {K : PySem.W.Frag} {st : Stmt} {f : Addr} {fd : FuncData} {ps ks : List Str} {ix : List Nat} (F : FnD K s st f fd) (h : KwOk s st ps ks ix) (sh : Shared) (ws : List Value) (hl : ws.length = ks.length) : BindsTo sh fd ⟨[], ks.zip ws⟩ (ps.zip (pickL ix ws)) := by
  obtain ⟨oc, od, dV, kV, doc, pm, an, cdv, ct, osl, rfl, lk, hcd, hD, hK⟩ := F.ex
  rcases hD with ⟨_, rfl⟩ | ⟨e, _⟩
  · exact .of_eq (h kV doc pm an cdv ct ws hl)
  · exact absurd rfl e
theorem e_callD {q : Nat} {st : Stmt} {ps : List Str} {R : List Sv → Sv → Prop} {xs : List Sv} (C : Cl Y.P Y.w Y.K Y.mg Y.base q s st ps (pureSp Y.K R)) (ha : EA m Y σ W i (e :: es) xs j) (hR : R xs y) (hq : q ≤ Y.k := by exact Nat.le_of_ble_eq_true rfl) (hg : Gb Y s := by rfl) (hdb : (s == ("__debug__" : Str)) = false := by decide)
    (he : ∀ a, starEach (e :: es) (Y.X a).env = (false, eval e (Y.X a).env) :: starEach es (Y.X a).env := by intro _; rfl) (hpl : ∀ a, (backTo pos (starEach es (Y.X a).env)).any (·.1) = false := by intro _; rfl) :
    E m Y σ W i (.Call (.Name s p) (e :: es) [] pos) y j := by
  obtain ⟨f, fd, h1, h2, h3⟩ := C.ex
  exact e_call h3 hq hg h1 h2.kp (h2.bindsN C.b) ha hR hdb he hpl
theorem e_callKD {q : Nat} {st : Stmt} {ps ks : List Str} {R : List Sv → Sv → Prop} {xs : List Sv} {kws : List Keyword} {ix : List Nat} (C : Cl Y.P Y.w Y.K Y.mg Y.base q s st ps (pureSp Y.K R)) (hb : KwOk s st ps ks ix) (ha : EK m Y σ W i kws xs j) (hl : xs.length = ks.length) (hR : R (pickL ix xs) y) (hq : q ≤ Y.k := by exact Nat.le_of_ble_eq_true rfl) (hg : Gb Y s := by rfl) (hdb : (s == ("__debug__" : Str)) = false := by decide)
    (hall : ∀ a, (backToKw pos (keywordEach kws (Y.X a).env)).all (·.1.isSome) = true := by intro _; rfl) (hks : ∀ a, (backToKw pos (keywordEach kws (Y.X a).env)).filterMap (·.1) = ks := by intro _; rfl)
    (hpl : ∀ a, ((backTo pos (starEach [] (Y.X a).env)).any (·.1) || (backToKw pos (keywordEach kws (Y.X a).env)).any (·.1.isNone)) = false := by intro _; rfl) :
    E m Y σ W i (.Call (.Name s p) [] kws pos) y j := by
  obtain ⟨f, fd, h1, h2, h3⟩ := C.ex
  exact e_callk h3 hq hg h1 h2.kp (fun s ws hl => kwBinds h2 hb s ws hl) ha hl hR hdb hall hks hpl
def visB (sc : Scope) (s : Str) : Bool := match sc.names.lookup s with
  | some .local => true
  | some .cell => true
  | some .free => true
  | _ => false
theorem vis_of {sc : Scope} (h : visB sc s = true) : Vis sc s := by
  unfold visB at h
  unfold Vis
  cases q : sc.names.lookup s with
  | none => rw [q] at h; cases h
  | some t =>
    rw [q] at h
    cases t <;> simp_all
def locB (sc : Scope) (s : Str) : Bool := match sc.names.lookup s with
  | some .local => true
  | some .cell => true
  | _ => false
theorem loc_of {sc : Scope} (h : locB sc s = true) : L2.Loc sc s := by
  unfold locB at h
  unfold L2.Loc
  cases q : sc.names.lookup s with
  | none => rw [q] at h; cases h
  | some t =>
    rw [q] at h
    cases t <;> simp_all
/-- a local, its slot n -/
theorem e_v {v : V} (n : Nat) (h : Is Y.K W.F v x) (hN : Y.N[n]? = some s := by rfl) (hv : visB Y.sc s = true := by rfl) (hs : σ[n]? = some (some v) := by rfl) (hd : (s == ("__debug__" : Str)) = false := by decide) (hcd : (s == ("__classdict__" : Str)) = false := by decide) :
    E m Y σ W i (.Name s pos) x i := e_var hN (vis_of hv) hs h hd hcd
theorem e_vat {w : V} (n : Nat) (hN : Y.N[n]? = some s := by rfl) (hv : visB Y.sc s = true := by rfl) (hs : σ[n]? = some (some w) := by rfl) (hd : (s == ("__debug__" : Str)) = false := by decide) (hcd : (s == ("__classdict__" : Str)) = false := by decide) :
    EG m Y σ W i (.Name s pos) (fun _ v _ => v = w) i := e_at hN (vis_of hv) hs hd hcd
theorem rl_v {q : Addr} (n : Nat) (ho : OwnL Y.K W q ds) (hm : ¬ m.M q) (hN : Y.N[n]? = some s := by rfl) (hv : visB Y.sc s = true := by rfl) (hs : σ[n]? = some (some (.ref q)) := by rfl) (hd : (s == ("__debug__" : Str)) = false := by decide) (hcd : (s == ("__classdict__" : Str)) = false := by decide) :
    ERl m Y σ W i (.Name s pos) ds i := erl_own hN (vis_of hv) hs ho hm hd hcd
theorem rd_v {q : Addr} {kvs : List (Key × PD)} (n : Nat) (ho : OwnD Y.K W q kvs) (hm : ¬ m.M q) (hN : Y.N[n]? = some s := by rfl) (hv : visB Y.sc s = true := by rfl) (hs : σ[n]? = some (some (.ref q)) := by rfl) (hd : (s == ("__debug__" : Str)) = false := by decide) (hcd : (s == ("__classdict__" : Str)) = false := by decide) :
    ERd m Y σ W i (.Name s pos) kvs i := erd_own hN (vis_of hv) hs ho hm hd hcd
/-- name = e -/
theorem s_st (n : Nat) (he : E m Y σ W i e x j) (r : m.R i W) (k : ∀ v T, Le m.M W T → m.R j T → Is Y.K T.F v x → wSs Y rest D (σ.set n (some v)) T.H) (hi : Y.N[n]? = some s := by rfl) (hx : locB Y.sc s = true := by rfl)
    (hsw : ∀ a, swapsWith e (some (.Name s p')) p.line (Y.X a).env = pure false := by intro _; rfl) (hf : ∀ a, (Y.X a).fn s = true ∨ (Y.X a).env.scope.names.lookup s = some .local := by intro _; first | exact .inl rfl | exact .inr rfl) : wSs Y (.Assign [.Name s p'] e p :: rest) D σ W.H :=
  s_set he r hi (loc_of hx) k hsw hf
theorem s_stG {P : Wd → V → Wd → Prop} (n : Nat) (he : EG m Y σ W i e P j) (r : m.R i W) (k : ∀ v T, Le m.M W T → m.R j T → P W v T → wSs Y rest D (σ.set n (some v)) T.H) (hi : Y.N[n]? = some s := by rfl) (hx : locB Y.sc s = true := by rfl)
    (hsw : ∀ a, swapsWith e (some (.Name s p')) p.line (Y.X a).env = pure false := by intro _; rfl) (hf : ∀ a, (Y.X a).fn s = true ∨ (Y.X a).env.scope.names.lookup s = some .local := by intro _; first | exact .inl rfl | exact .inr rfl) : wSs Y (.Assign [.Name s p'] e p :: rest) D σ W.H :=
  s_setG he r hi (loc_of hx) k hsw hf
theorem g_n {Q : L2.St → Hp → Prop} {v : V} {H : Hp} (n : Nat) (h : Q (σ.set n (some v)) H) (hi : Y.N[n]? = some s := by rfl) (hx : locB Y.sc s = true := by rfl) (hf : ∀ a, (Y.X a).fn s = true ∨ (Y.X a).env.scope.names.lookup s = some .local := by intro _; first | exact .inl rfl | exact .inr rfl) : wG Y (.Name s p) v σ H Q :=
  g_name hi (loc_of hx) h hf
end
section
variable {Y : Fam} {σ : L2.St} {W W0 : Wd} {e : Expr} {rest : List Stmt} {p : Pos} {x y : Sv} {D : Ends} {i : m0.ι}
/-- return e, in a pure def -/
theorem s_ret0 (he : E m0 Y σ W i e x i) (l : Le M0 W0 W) (hD : ∀ v T, Le M0 W0 T → Is Y.K T.F v y → D.rt v T.H) (hxy : x = y := by rfl) : wSs Y (.Return (some e) p :: rest) D σ W.H :=
  s_ret (m := m0) he True.intro fun v T l1 _ h => hD v T (l.trans l1) (hxy ▸ h)
end
/-- a block's names, by a test -/
def blkB (N : List Str) (sc scope : Scope) (own : List (Str × Nat)) : Bool :=
  decide (scope.kind = .function) && scope.names.all (fun y => decide (scope.names.lookup y.1 = some y.2)) && own.all (fun p => decide (N[p.2]? = some p.1)) &&
  scope.names.all (fun y => decide (y.2 ≠ .free) || decide (sc.names.lookup y.1 = some .cell) || decide (sc.names.lookup y.1 = some .free)) &&
  scope.names.all (fun y => (decide (y.2 ≠ .local) && decide (y.2 ≠ .cell)) || decide (y.1 ∈ own.map (·.1)) || decide (y.1 ∉ N))
theorem blk_of {N : List Str} {sc scope : Scope} {own : List (Str × Nat)} (h : blkB N sc scope own = true) : BlkOk N sc scope own := by
  unfold blkB at h
  simp only [Bool.and_eq_true, Bool.or_eq_true, List.all_eq_true, decide_eq_true_eq] at h
  obtain ⟨⟨⟨⟨h1, h2⟩, h3⟩, h4⟩, h5⟩ := h
  refine ⟨h1, h2, h3, fun y hy hf => ?_, fun y hy hf => ?_⟩
  · rcases h4 y hy with (h | h) | h
    · exact absurd hf h
    · exact .inl h
    · exact .inr h
  · rcases h5 y hy with (h | h) | h
    · rcases hf with z | z
      · exact absurd z h.1
      · exact absurd z h.2
    · exact .inl h
    · exact .inr h
/-- items of mapped lists -/
theorem atI_nat {α : Type} {ds : List α} {k : Nat} {d : α} (h : ds[k]? = some d) : atI ds (k : Int) = some d := by
  have hk := (List.getElem?_eq_some_iff.mp h).1
  unfold atI
  have e : ixN ds.length (k : Int) = some k := by
    unfold ixN
    simp [hk]
  rw [e]
  exact h
theorem at_map {α : Type} {f : α → PD} {xs : List α} {k : Nat} {a : α} (h : xs[k]? = some a) : atI (xs.map f) (k : Int) = some (f a) := atI_nat (by rw [List.getElem?_map, h] <;> rfl)
end Pv
set_option Elab.async false
set_option linter.all false
set_option maxRecDepth 100000
set_option maxHeartbeats 4000000
namespace Pv
open PySem PySem.Spec PyProof.Rows L2 RZ
theorem Is.fl {K : PySem.W.Frag} {W T : Wd} (f : Fl W T) {v : V} {x : Sv} (q : Is K W.F v x) : Is K T.F v x := q.mono f
/-- the items of xs, by their data -/
def itE {α : Type} (K : PySem.W.Frag) (xs : List α) (enc : α → PD) : Nat → V → Wd → Prop := fun k x T => ∀ a, xs[k]? = some a → Dp K T.F x (enc a)
theorem EI.imp {m : Mode} {Y : Fam} {σ : L2.St} {W : Wd} {i j : m.ι} {tg iter : Expr} {n n' : Nat} {it it' : Nat → V → Wd → Prop} (h : EI m Y σ W i tg iter n it j) (hn : n = n') (hi : ∀ k x T, k < n → it k x T → it' k x T) : EI m Y σ W i tg iter n' it' j := fun U l r Z z => by
  subst hn
  exact h U l r Z fun J T l1 r1 ok => z J T l1 r1 ⟨ok.1, fun k hk T' hf => ⟨(ok.2 k hk T' hf).1, fun x H' hy => by
    obtain ⟨T2, e, l2, q⟩ := (ok.2 k hk T' hf).2 x H' hy
    exact ⟨T2, e, l2, hi k x T2 hk q⟩⟩⟩
section
variable {m : Mode} {Y : Fam} {σ : L2.St} {W W' : Wd} {i j k l : m.ι} {e a b c tg iter : Expr} {es : List Expr} {rest body : List Stmt} {pos p p' : Pos} {x y z : Sv} {d d' : PD} {ds : List PD} {u v : Bool} {D : Ends} {s : Str} {n : Nat} {α β : Type}
theorem ei_tupE {xs : List α} {enc : α → PD} (h : E m Y σ W i e (.d (.tuple (xs.map enc))) j) : EI m Y σ W i tg e xs.length (itE Y.K xs enc) j :=
  (ei_tup h).imp (List.length_map ..) fun k x T _ ⟨d, h1, h2⟩ a ha => by
    rw [List.getElem?_map, ha] at h1
    cases h1
    exact h2
theorem ei_lstE {xs : List α} {enc : α → PD} (h : E m Y σ W i e (.d (.list (xs.map enc))) j) : EI m Y σ W i tg e xs.length (itE Y.K xs enc) j :=
  (ei_list h).imp (List.length_map ..) fun k x T _ ⟨d, h1, h2⟩ a ha => by
    rw [List.getElem?_map, ha] at h1
    cases h1
    exact h2
def rgI (lo : Int) (n : Nat) : List Int := (List.range n).map fun (k : Nat) => lo + (k : Int)
theorem rgI_len {lo : Int} {n : Nat} : (rgI lo n).length = n := by simp [rgI]
theorem rgI_get {lo : Int} {n k : Nat} {a : Int} (h : (rgI lo n)[k]? = some a) : a = lo + (k : Int) := by
  unfold rgI at h
  rw [List.getElem?_map] at h
  have hk : k < n := by
    by_cases z : k < n
    · exact z
    · rw [List.getElem?_eq_none (by simp; omega)] at h
      cases h
  rw [List.getElem?_range hk] at h
  exact (Option.some.inj h).symm
theorem ei_rg1E {q : Int} (B : BI Y "range" (.type "range")) (ha : E m Y σ W i a (.d (.int q)) j) (h1 : -(2 ^ 62) ≤ q ∧ q < 2 ^ 62) (hs : ∀ c, starEach [a] (Y.X c).env = [(false, eval a (Y.X c).env)] := by intro _; rfl) :
    EI m Y σ W i tg (.Call (.Name "range" p) [a] [] pos) (rgI 0 q.toNat).length (itE Y.K (rgI 0 q.toNat) .int) j :=
  (ei_range1 B ha h1 hs).imp rgI_len.symm fun k x T hk h a ha => by
    rw [rgI_get ha, show x = _ from h]
    exact Dp.int _
theorem ei_rg2E {q w : Int} (B : BI Y "range" (.type "range")) (ha : E m Y σ W i a (.d (.int q)) j) (hb : E m Y σ W j b (.d (.int w)) k) (h1 : -(2 ^ 62) ≤ q ∧ q < 2 ^ 62 ∧ -(2 ^ 62) ≤ w ∧ w < 2 ^ 62)
    (hs : ∀ c, starEach [a, b] (Y.X c).env = [(false, eval a (Y.X c).env), (false, eval b (Y.X c).env)] := by intro _; rfl) (hs2 : ∀ c, starEach [b] (Y.X c).env = [(false, eval b (Y.X c).env)] := by intro _; rfl) :
    EI m Y σ W i tg (.Call (.Name "range" p) [a, b] [] pos) (rgI q (w - q).toNat).length (itE Y.K (rgI q (w - q).toNat) .int) k :=
  (ei_range2 B ha hb h1 hs hs2).imp rgI_len.symm fun k x T hk h a ha => by
    rw [rgI_get ha, show x = _ from h]
    exact Dp.int _
def rgS (lo st : Int) (n : Nat) : List Int := (List.range n).map fun (k : Nat) => lo + (k : Int) * st
theorem rgS_len {lo st : Int} {n : Nat} : (rgS lo st n).length = n := by simp [rgS]
theorem rgS_get {lo st : Int} {n k : Nat} {a : Int} (h : (rgS lo st n)[k]? = some a) : a = lo + (k : Int) * st := by
  unfold rgS at h
  rw [List.getElem?_map] at h
  have hk : k < n := by
    by_cases z : k < n
    · exact z
    · rw [List.getElem?_eq_none (by simp; omega)] at h
      cases h
  rw [List.getElem?_range hk] at h
  exact (Option.some.inj h).symm
theorem ei_rg3E {q w g : Int} {N : Nat} {l : m.ι} (B : BI Y "range" (.type "range")) (ha : E m Y σ W i a (.d (.int q)) j) (hb : E m Y σ W j b (.d (.int w)) k) (hc : E m Y σ W k c (.d (.int g)) l) (h1 : RgC q w g N)
    (hs : ∀ t, starEach [a, b, c] (Y.X t).env = (false, eval a (Y.X t).env) :: starEach [b, c] (Y.X t).env := by intro _; rfl) (hs2 : ∀ t, starEach [b, c] (Y.X t).env = (false, eval b (Y.X t).env) :: starEach [c] (Y.X t).env := by intro _; rfl) (hs3 : ∀ t, starEach [c] (Y.X t).env = (false, eval c (Y.X t).env) :: starEach [] (Y.X t).env := by intro _; rfl)
    (hpl : ∀ t, (backTo pos (starEach [b, c] (Y.X t).env)).any (·.1) = false := by intro _; rfl) :
    EI m Y σ W i tg (.Call (.Name "range" p) [a, b, c] [] pos) (rgS q g N).length (itE Y.K (rgS q g N) .int) l :=
  (ei_range3 B ha hb hc h1 hs hs2 hs3 hpl).imp rgS_len.symm fun k x T hk h a ha => by
    rw [rgS_get ha, show x = _ from h]
    exact Dp.int _
theorem ei_zipE {elts : List Expr} {q : Nat} {tp : Pos} {xs : List α} {ys : List β} {f : α → PD} {g : β → PD} (B : BI Y "zip" (.type "zip")) (ha : E m Y σ W i a (.d (.tuple (xs.map f))) j) (hb : E m Y σ W j b (.d (.tuple (ys.map g))) k)
    (hs : ∀ c, starEach [a, b] (Y.X c).env = (false, eval a (Y.X c).env) :: starEach [b] (Y.X c).env := by intro _; rfl) (hs2 : ∀ c, starEach [b] (Y.X c).env = (false, eval b (Y.X c).env) :: starEach [] (Y.X c).env := by intro _; rfl)
    (hpl : ∀ c, (backTo pos (starEach [b] (Y.X c).env)).any (·.1) = false := by intro _; rfl) :
    EI m Y σ W i (.Tuple elts q tp) (.Call (.Name "zip" p) [a, b] [] pos) (xs.zip ys).length (itE Y.K (xs.zip ys) fun r => .tuple [f r.1, g r.2]) k :=
  (ei_zipT B ha hb hs hs2 hpl).imp (by simp) fun k x T hk ⟨t, v1, v2, d1, d2, e1, e2, e3, e4, e5, e6⟩ a ha => by
    obtain ⟨a1, a2⟩ := a
    rw [List.getElem?_zip_eq_some] at ha
    rw [List.getElem?_map, ha.1] at e5
    rw [List.getElem?_map, ha.2] at e6
    cases e5
    cases e6
    subst e1
    exact Dp.tup e2 (.cons e3 (.cons e4 .nil))
theorem ei_enumLE {elts : List Expr} {q : Nat} {tp : Pos} {xs : List α} {f : α → PD} (B : BI Y "enumerate" (.type "enumerate")) (ha : E m Y σ W i a (.d (.list (xs.map f))) j)
    (hs : ∀ c, starEach [a] (Y.X c).env = [(false, eval a (Y.X c).env)] := by intro _; rfl) :
    EI m Y σ W i (.Tuple elts q tp) (.Call (.Name "enumerate" p) [a] [] pos) xs.zipIdx.length (itE Y.K xs.zipIdx fun r => .tuple [.int (r.2 : Int), f r.1]) j :=
  (ei_enumL B ha hs).imp (by simp) fun k x T hk ⟨t, v1, v2, d1, d2, e1, e2, e3, e4, e5, e6⟩ a ha => by
    obtain ⟨a1, a2⟩ := a
    rw [List.getElem?_zipIdx] at ha
    rw [List.getElem?_map] at e6
    cases q : xs[k]? with
    | none =>
      rw [q] at ha
      cases ha
    | some y =>
      rw [q] at ha e6
      cases ha
      cases e6
      subst e5 e1
      simp only [Nat.zero_add]
      exact Dp.tup e2 (.cons e3 (.cons e4 .nil))
theorem ei_enumTE {elts : List Expr} {q : Nat} {tp : Pos} {xs : List α} {f : α → PD} (B : BI Y "enumerate" (.type "enumerate")) (ha : E m Y σ W i a (.d (.tuple (xs.map f))) j)
    (hs : ∀ c, starEach [a] (Y.X c).env = [(false, eval a (Y.X c).env)] := by intro _; rfl) :
    EI m Y σ W i (.Tuple elts q tp) (.Call (.Name "enumerate" p) [a] [] pos) xs.zipIdx.length (itE Y.K xs.zipIdx fun r => .tuple [.int (r.2 : Int), f r.1]) j :=
  (ei_enumT B ha hs).imp (by simp) fun k x T hk ⟨t, v1, v2, d1, d2, e1, e2, e3, e4, e5, e6⟩ a ha => by
    obtain ⟨a1, a2⟩ := a
    rw [List.getElem?_zipIdx] at ha
    rw [List.getElem?_map] at e6
    cases q : xs[k]? with
    | none =>
      rw [q] at ha
      cases ha
    | some y =>
      rw [q] at ha e6
      cases ha
      cases e6
      subst e5 e1
      simp only [Nat.zero_add]
      exact Dp.tup e2 (.cons e3 (.cons e4 .nil))
/-! ### comprehensions over typed items -/
theorem el_lcE {elt : Expr} {ifs : List Expr} {scope : Scope} (own : List (Str × Nat)) {xs : List α} {enc : α → PD} (pr : α → Bool) (g : α → PD) (hi : EI m Y σ W i tg iter xs.length (itE Y.K xs enc) j) (hl : xs.length ≤ 100000)
    (ht : ∀ T0, Le m.M W T0 → ∀ a, a ∈ xs → ∀ x T, Fl W T → m.R j T → Is Y.K T.F x (.d (enc a)) → Turn1 m (Y.blk scope) tg elt ifs (own.map (·.2)) σ x T j (pr a) (g a)) (ok : blkB Y.N Y.sc scope own = true := by rfl)
    (hs : ∀ a, ∀ x, foldedSetIterable iter (Y.X a).env x = pure x := by intro _ _; rfl) :
    EL m Y σ W i (.ListComp elt [⟨tg, iter, ifs, 0⟩] scope pos) ((xs.filter pr).map g) j :=
  el_lc xs pr g hi hl (blk_of ok) (fun T0 l0 k a ha x T hf r hd => ht T0 l0 a (List.mem_of_getElem? ha) x T (l0.fl.trans hf) r (hd a ha)) hs
/-- .. no tests -/
theorem el_lcM {elt : Expr} {scope : Scope} (own : List (Str × Nat)) {xs : List α} {enc : α → PD} (g : α → PD) (hi : EI m Y σ W i tg iter xs.length (itE Y.K xs enc) j) (hl : xs.length ≤ 100000)
    (ht : ∀ T0, Le m.M W T0 → ∀ a, a ∈ xs → ∀ x T, Fl W T → m.R j T → Is Y.K T.F x (.d (enc a)) → ∃ σ2 : L2.St, (∀ Q : L2.St → Hp → Prop, Q σ2 T.H → wG (Y.blk scope) tg x (wipe σ (own.map (·.2))) T.H Q) ∧ wipe σ2 (own.map (·.2)) = wipe σ (own.map (·.2)) ∧ E m (Y.blk scope) σ2 T j elt (.d (g a)) j) (ok : blkB Y.N Y.sc scope own = true := by rfl)
    (hs : ∀ a, ∀ x, foldedSetIterable iter (Y.X a).env x = pure x := by intro _ _; rfl) :
    EL m Y σ W i (.ListComp elt [⟨tg, iter, [], 0⟩] scope pos) (xs.map g) j := by
  have h := el_lcE (m := m) (Y := Y) (σ := σ) (W := W) (i := i) (j := j) (tg := tg) (iter := iter) (pos := pos) (elt := elt) (ifs := []) (scope := scope) own (xs := xs) (enc := enc) (fun _ => true) g hi hl
    (fun T0 l0 a ha x T hf r hd => by
      obtain ⟨σ2, q1, q2, q3⟩ := ht T0 l0 a ha x T hf r hd
      exact ⟨σ2, q1, q2, ets_nil, fun _ => q3⟩) ok hs
  have e : xs.filter (fun _ => true) = xs := List.filter_eq_self.mpr fun _ _ => rfl
  rw [e] at h
  exact h
theorem s_setLcE {elt : Expr} {ifs : List Expr} {scope : Scope} {lp : Pos} (n : Nat) (own : List (Str × Nat)) {xs : List α} {enc : α → PD} (pr : α → Bool) (g : α → PD) (hi : EI m Y σ W i tg iter xs.length (itE Y.K xs enc) j) (hl : xs.length ≤ 100000)
    (ht : ∀ T0, Le m.M W T0 → ∀ a, a ∈ xs → ∀ x T, Fl W T → m.R j T → Is Y.K T.F x (.d (enc a)) → Turn1 m (Y.blk scope) tg elt ifs (own.map (·.2)) σ x T j (pr a) (g a)) (r : m.R i W)
    (k : ∀ q T, Le m.M W T → m.R j T → ¬ m.M q → OwnL Y.K T q ((xs.filter pr).map g) → wSs Y rest D (σ.set n (some (.ref q))) T.H)
    (hn : Y.N[n]? = some s := by rfl) (hx : Y.sc.names.lookup s = some .local := by rfl) (ok : blkB Y.N Y.sc scope own = true := by rfl)
    (hsw : ∀ a, swapsWith (.ListComp elt [⟨tg, iter, ifs, 0⟩] scope lp) (some (.Name s p')) p.line (Y.X a).env = pure true := by intro _; exact sw_true rfl rfl rfl (by decide +kernel))
    (hs : ∀ a, ∀ x, foldedSetIterable iter (Y.X a).env x = pure x := by intro _ _; rfl) :
    wSs Y (.Assign [.Name s p'] (.ListComp elt [⟨tg, iter, ifs, 0⟩] scope lp) p :: rest) D σ W.H :=
  s_setLc xs pr g hi hl (blk_of ok) (fun T0 l0 k a ha x T hf r hd => ht T0 l0 a (List.mem_of_getElem? ha) x T (l0.fl.trans hf) r (hd a ha)) r hn hx
    (fun q T us l1 r1 e1 e2 e3 e4 => k q T l1 r1 (m.nm r e1) ⟨e2, us, e3, e4⟩) hsw hs
/-! ### for, over typed items -/
theorem s_forE {xs : List α} {enc : α → PD} (Inv : Wd → List α → L2.St → Wd → m.ι → Prop) (hi : EI m Y σ W i tg iter xs.length (itE Y.K xs enc) j) (r : m.R i W) (h0 : ∀ T0, Le m.M W T0 → m.R j T0 → Inv T0 [] σ T0 j)
    (hs : ∀ T0, Le m.M W T0 → ∀ done a todo, xs = done ++ a :: todo → ∀ σ' T c, Fl T0 T → m.R c T → Inv T0 done σ' T c → ∀ x T', Le M0 T T' → m.R c T' → Is Y.K T'.F x (.d (enc a)) →
      wG Y tg x σ' T'.H fun σ2 H2 => wSs Y body { D with nx := fun σ3 H3 => ∃ V c', V.H = H3 ∧ Fl T0 V ∧ m.R c' V ∧ Inv T0 (done ++ [a]) σ3 V c', ct := fun σ3 H3 => ∃ V c', V.H = H3 ∧ Fl T0 V ∧ m.R c' V ∧ Inv T0 (done ++ [a]) σ3 V c', bk := fun σ3 H3 => wSs Y rest D σ3 H3 } σ2 H2)
    (hd : ∀ T0, Le m.M W T0 → ∀ σ' T c, Fl T0 T → m.R c T → Inv T0 xs σ' T c → wSs Y rest D σ' T.H) (hp : ∀ a, PassesOwn (model (Y.X a).prog (Y.X a).w) (Y.X a).A (Y.X a).env (Y.X a).xe := by intro _; exact PassesOwn.never)
    (hss : ∀ a, ∀ x, foldedSetIterable iter (Y.X a).env x = pure x := by intro _ _; rfl) : wSs Y (.For tg iter body [] p :: rest) D σ W.H :=
  s_for (fun T0 k σ' T c => Inv T0 (xs.take k) σ' T c) hi r (fun T0 l0 r0 => by simpa using h0 T0 l0 r0)
    (fun T0 l0 k σ' T c hk f1 r1 inv x T' l2 r2 hit => by
      have ha : xs[k]? = some xs[k] := by simp [hk]
      have tk : xs.take (k + 1) = xs.take k ++ [xs[k]] := by
        rw [List.take_add_one, ha] <;> rfl
      rw [tk]
      exact hs T0 l0 (xs.take k) xs[k] (xs.drop (k + 1)) (by simp) σ' T c f1 r1 inv x T' l2 r2 (hit _ ha))
    (fun T0 l0 σ' T c f1 r1 inv => hd T0 l0 σ' T c f1 r1 (by rw [List.take_length] at inv; exact inv)) hp hss
/-- a change at a new place -/
theorem Le.step {M : Addr → Prop} {W0 T T' : Wd} {q : Addr} (h : Le M W0 T) (h' : Le (MX M q) T T') (hq : W0.H q = none) : Le M W0 T' :=
  ⟨fun a o e => h'.f a o (h.f a o e), fun a o hm e => h'.h a o (fun z => by
    rcases z with z | z
    · exact hm z
    · rw [z, hq] at e
      cases e) (h.h a o hm e), fun a e k => h'.n a (h.n a e k) (h.k a k), fun a k => h'.k a (h.k a k)⟩
theorem OwnL.mx {K : PySem.W.Frag} {M : Addr → Prop} {W T : Wd} {l q : Addr} {ds : List PD} (h : OwnL K W l ds) (a : Le (MX M q) W T) (hm : ¬ M l) (hq : l ≠ q) : OwnL K T l ds := h.le a fun z => z.elim hm hq
theorem OwnD.mx {K : PySem.W.Frag} {M : Addr → Prop} {W T : Wd} {l q : Addr} {kvs : List (Key × PD)} (h : OwnD K W l kvs) (a : Le (MX M q) W T) (hm : ¬ M l) (hq : l ≠ q) : OwnD K T l kvs := h.le a fun z => z.elim hm hq
/-- return of a dict that the def owns -/
theorem s_retD {W0 : Wd} {q : Addr} {kvs : List (Key × PD)} {σ : L2.St} {W : Wd} {D : Ends} {rest : List Stmt} {p pos : Pos} {s : Str} {Y : Fam} (n : Nat) (ho : OwnD Y.K W q kvs) (l : Le M0 W0 W) (hq : W0.H q = none) (hD : ∀ v T, Le M0 W0 T → Is Y.K T.F v (.dk kvs) → D.rt v T.H)
    (hN : Y.N[n]? = some s := by rfl) (hv : visB Y.sc s = true := by rfl) (hs : σ[n]? = some (some (.ref q)) := by rfl) (hd : (s == ("__debug__" : Str)) = false := by decide) (hcd : (s == ("__classdict__" : Str)) = false := by decide) : wSs Y (.Return (some (.Name s pos)) p :: rest) D σ W.H := by
  obtain ⟨f, vs, h1, h2⟩ := ho
  refine ⟨_, fun a => pss_cons (ps_ret (wE_ok a)) (wSs_ok (ss := rest) a), ?_⟩
  refine e_vat (m := m0) (i := ()) (W := W) n hN hv hs hd hcd W (Le.refl W) True.intro _ fun v T l1 _ e => ?_
  subst e
  have hT : T.H q = some (.dK vs) := l1.h q _ (fun z => z) h1
  have fT : T.F q = none := l1.n q f (by rw [h1]; exact fun z => nomatch z)
  exact hD _ (T.ice q _ hT) ((l.trans l1).ice hq hT fT) ⟨q, vs, rfl, upd_same, (h2.mono l1.f).mono (upd_none fT)⟩
/-- a tuple of two, of three against names -/
theorem dp2 {K : PySem.W.Frag} {F : Hp} {x : V} {d1 d2 : PD} (h : Is K F x (.d (.tuple [d1, d2]))) : ∃ t v1 v2, x = .ref t ∧ SqT K F t [v1, v2] ∧ Is K F v1 (.d d1) ∧ Is K F v2 (.d d2) := by
  cases h with
  | tup h1 h2 =>
    cases h2 with
    | cons a b =>
      cases b with
      | cons c d =>
        cases d
        exact ⟨_, _, _, rfl, h1, a, c⟩
theorem dp3 {K : PySem.W.Frag} {F : Hp} {x : V} {d1 d2 d3 : PD} (h : Is K F x (.d (.tuple [d1, d2, d3]))) : ∃ t v1 v2 v3, x = .ref t ∧ SqT K F t [v1, v2, v3] ∧ Is K F v1 (.d d1) ∧ Is K F v2 (.d d2) ∧ Is K F v3 (.d d3) := by
  cases h with
  | tup h1 h2 =>
    cases h2 with
    | cons a b =>
      cases b with
      | cons c d =>
        cases d with
        | cons e f =>
          cases f
          exact ⟨_, _, _, _, rfl, h1, a, c, e⟩
end
end Pv
set_option Elab.async false
set_option linter.all false
set_option maxRecDepth 100000
set_option maxHeartbeats 4000000
namespace Pv
open PySem PySem.Spec PyProof.Rows L2 RZ
/-! ### shapes of data -/
def Shp (k : Nat) (d : PD) : Prop := d.canLay0 = true ∧ d.depth ≤ k
theorem shp_int {k : Nat} (n : Int) : Shp k (.int n) := ⟨rfl, Nat.zero_le _⟩
theorem shp_bl {k : Nat} (n : Bool) : Shp k (.bool n) := ⟨rfl, Nat.zero_le _⟩
theorem shp_non {k : Nat} : Shp k .none := ⟨rfl, Nat.zero_le _⟩
theorem shp_str {k : Nat} {s : Str} (h : PyData.strOk s = true) : Shp k (.str s) := ⟨by simpa [PyData.canLay0] using h, Nat.zero_le _⟩
theorem shp_all {k : Nat} : ∀ {ds : List PD}, (∀ d ∈ ds, Shp k d) → PyData.canLayAll0 ds = true ∧ PyData.depthAll ds ≤ k
  | [], _ => ⟨rfl, Nat.zero_le _⟩
  | d :: ds, h => by
    obtain ⟨h1, h2⟩ := shp_all (ds := ds) fun x hx => h x (List.mem_cons_of_mem _ hx)
    obtain ⟨h3, h4⟩ := h d List.mem_cons_self
    refine ⟨by simp [PyData.canLayAll0, h1, h3], ?_⟩
    simp only [PyData.depthAll]
    omega
theorem shp_list {k : Nat} {ds : List PD} (h : ∀ d ∈ ds, Shp k d) : Shp (k + 1) (.list ds) := by
  obtain ⟨h1, h2⟩ := shp_all h
  refine ⟨by simpa [PyData.canLay0] using h1, ?_⟩
  simp only [PyData.depth]
  omega
theorem shp_tup {k : Nat} {ds : List PD} (h : ∀ d ∈ ds, Shp k d) : Shp (k + 1) (.tuple ds) := by
  obtain ⟨h1, h2⟩ := shp_all h
  refine ⟨by simpa [PyData.canLay0] using h1, ?_⟩
  simp only [PyData.depth]
  omega
theorem shp_map {α : Type} {k : Nat} {xs : List α} {f : α → PD} (h : ∀ a, Shp k (f a)) : ∀ d ∈ xs.map f, Shp k d := fun d hd => by
  obtain ⟨a, _, rfl⟩ := List.mem_map.mp hd
  exact h a
theorem shp_nil {k : Nat} : ∀ d ∈ ([] : List PD), Shp k d := fun d h => by cases h
theorem shp_cons {k : Nat} {d : PD} {ds : List PD} (h : Shp k d) (h2 : ∀ x ∈ ds, Shp k x) : ∀ x ∈ d :: ds, Shp k x := fun x hx => by
  rcases List.mem_cons.mp hx with rfl | z
  · exact h
  · exact h2 x z
theorem Shp.mono {j k : Nat} {d : PD} (h : Shp j d) (hk : j ≤ k) : Shp k d := ⟨h.1, Nat.le_trans h.2 hk⟩
theorem Shp.ok {k : Nat} {d : PD} (h : Shp k d) (hk : k ≤ 64 := by exact Nat.le_of_ble_eq_true rfl) : SeqAt.shaped d = true := by
  unfold SeqAt.shaped
  rw [h.1, decide_eq_true (Nat.le_trans h.2 hk)]
  rfl
theorem shaped_ints (ns : List Int) : SeqAt.shaped (.list (ns.map .int)) = true := (shp_list (k := 0) (shp_map shp_int)).ok
theorem eqv_nilL (ds : List PD) : PyData.eqv (.list ds) (.list []) = ds.isEmpty := by
  cases ds <;> rfl
theorem eqv_nilT (ds : List PD) : PyData.eqv (.tuple ds) (.tuple []) = ds.isEmpty := by
  cases ds <;> rfl
/-- sorted of a list that may be read now -/
theorem el_sortedR {m : Mode} {Y : Fam} {σ : L2.St} {W : Wd} {i j : m.ι} {e : Expr} {p pos : Pos} {ns ns' : List Int} (B : BI Y "sorted" (.builtin "sorted")) (ha : ERl m Y σ W i e (ns.map .int) j) (hp : ns'.Perm ns) (hs : ns'.Pairwise (· ≤ ·))
    (he : ∀ a, starEach [e] (Y.X a).env = (false, eval e (Y.X a).env) :: starEach [] (Y.X a).env := by intro _; rfl) (hpl : ∀ a, (backTo pos (starEach [] (Y.X a).env)).any (·.1) = false := by intro _; rfl) :
    EL m Y σ W i (.Call (.Name "sorted" p) [e] [] pos) (ns'.map .int) j := fun U h1 r Q z =>
  ⟨_, fun t => pe_callB (cSortI t) (B.g.gl t) (by rw [Y.hmg]; exact B.m) B.v (pa_cons (wE_ok (e := e) t) pa_nil (he t)) (by decide) (by decide) (he t) (hpl t), ha U h1 r _ fun v T l1 r1 ⟨q, us, e1, e2, e3⟩ => by
    subst e1
    have e4 := e3.ints
    subst e4
    refine ⟨q, ns, rfl, e2 T (Le.refl T), fun zs p h1 h2 h3 => ?_⟩
    have e5 : zs = ns' := sorted_unique (h1.trans hp.symm) h2 hs
    subst e5
    exact z (.ref p) (T.own p _ h3) (l1.trans (Le.own h3)) (m.le0 r1 (Le.own h3)) ⟨p, _, rfl, l1.back h3, T.fnone h3, upd_same, dpInts zs⟩⟩
/-! ### max of three -/
section
variable {m : Mode} {Y : Fam} {σ : L2.St} {W W' : Wd} {i j k l : m.ι} {e a b c : Expr} {pos p p' : Pos}
def mx2 (a b : Int) : Int := if b > a then b else a
theorem mx2_max (a b : Int) : mx2 a b = max a b := by
  unfold mx2
  split <;> omega
theorem nuMax3_int (a b c : Int) : nuMax3 (.int a) (.int b) (.int c) = some (.int (mx2 (mx2 a b) c)) := by
  have h2 : ∀ x y : Int, nuMax2 (.int x) (.int y) = some (.int (mx2 x y)) := fun x y => by
    show (some (decide (x < y))).map (fun c => if c = true then V.int y else V.int x) = _
    unfold mx2
    by_cases h : x < y <;> simp [h]
  show (nuMax2 (.int a) (.int b)).bind (fun m => nuMax2 m (.int c)) = _
  rw [h2]
  exact h2 _ _
theorem e_max3 {n q r : Int} (B : BI Y "max" (.builtin "max")) (ha : E m Y σ W i a (.d (.int n)) j) (hb : E m Y σ W j b (.d (.int q)) k) (hc : E m Y σ W k c (.d (.int r)) l) (he : ∀ t, starEach [a, b, c] (Y.X t).env = (false, eval a (Y.X t).env) :: starEach [b, c] (Y.X t).env := by intro _; rfl) (he2 : ∀ t, starEach [b, c] (Y.X t).env = (false, eval b (Y.X t).env) :: starEach [c] (Y.X t).env := by intro _; rfl) (he3 : ∀ t, starEach [c] (Y.X t).env = (false, eval c (Y.X t).env) :: starEach [] (Y.X t).env := by intro _; rfl)
    (hpl : ∀ t, (backTo pos (starEach [b, c] (Y.X t).env)).any (·.1) = false := by intro _; rfl) : E m Y σ W i (.Call (.Name "max" p) [a, b, c] [] pos) (.d (.int (mx2 (mx2 n q) r))) l := e_cb B (fun t => call_max3Nu (Y.hc t)) (ea_cons ha (ea_cons hb (ea_cons hc ea_nil he3) he2) he) (fun T vs Q h z => by
  obtain ⟨v, w, u, rfl, h1, h2, h3⟩ := h.inv3
  refine ⟨v, w, u, .int (mx2 (mx2 n q) r), rfl, ?_, z _ T (Le.refl T) (Dp.int _)⟩
  rw [h1.int, h2.int, h3.int]
  exact nuMax3_int n q r) (he := he) (hpl := hpl)
end
end Pv
set_option Elab.async false
set_option linter.all false
set_option maxRecDepth 100000
set_option maxHeartbeats 4000000
/-! plain specs of the one-counter part -/
namespace Oc
open PySem PySem.Spec PyProof.Rows L2 Pv
def rowD (r : List Int) : PD := .tuple (r.map .int)
abbrev Net := List (List Int × List Int)
def stepD (s : List Int × List Int) : PD := .tuple [rowD s.1, rowD s.2]
def netD (net : Net) : PD := .tuple (net.map stepD)
/-- steps of one place: taken, put -/
abbrev St1 := List (Int × Int)
def one (st : St1) : Net := st.map fun s => ([s.1], [s.2])
def oneD (st : St1) : PD := netD (one st)
def enc2 (p : Int × Int) : PD := .tuple [.int p.1, .int p.2]
def risesS (st : St1) : List (Int × Int) := st.map fun s => (s.1, s.2 - s.1)
abbrev Fo := List (Int × Option (Int × Nat))
def encO : Option (Int × Nat) → PD
  | none => .none
  | some (x, k) => .tuple [.int x, .int (k : Int)]
def encF (f : Fo) : List (Key × PD) := f.map fun p => (.inl p.1, encO p.2)
def has (f : Fo) (x : Int) : Bool := f.any fun p => p.1 == x
def inner (top x : Int) (s : Fo × List Int) (rk : (Int × Int) × Nat) : Fo × List Int :=
  if (decide (rk.1.1 ≤ x) && (decide (x + rk.1.2 ≤ top) && !has s.1 (x + rk.1.2))) = true then (s.1 ++ [(x + rk.1.2, some (x, rk.2))], s.2 ++ [x + rk.1.2]) else s
def level (rs : List (Int × Int)) (top : Int) (found : Fo) (here : List Int) : Fo × List Int := here.foldl (fun s x => rs.zipIdx.foldl (inner top x) s) (found, [])
def bfs (rs : List (Int × Int)) (top : Int) : Nat → Fo → List Int → Fo
  | 0, f, _ => f
  | q + 1, f, here => if here = [] then f else bfs rs top q (level rs top f here).1 (level rs top f here).2
def ways (rs : List (Int × Int)) (n top : Int) : Fo := bfs rs top (top.toNat + 3) [(n, none)] [n]
theorem bfs_nil (rs : List (Int × Int)) (top : Int) (q : Nat) (f : Fo) : bfs rs top q f [] = f := by
  cases q <;> simp [bfs]
theorem valD_encF (f : Fo) (x : Int) : (valD (encF f) (.inl x)).isSome = has f x := by
  induction f with
  | nil => rfl
  | cons p f ih =>
    by_cases h : p.1 = x
    · simp [valD, encF, has, h]
    · have h' : ¬ ((Sum.inl p.1 : Key) = Sum.inl x) := fun z => h (Sum.inl.inj z)
      have h2 : (p.1 == x) = false := by simp [h]
      simp [valD, encF, has, h2, h'] at ih ⊢
      simpa [h] using ih
theorem putD_encF (f : Fo) (x : Int) (o : Option (Int × Nat)) (h : has f x = false) : putD (encF f) (.inl x) (encO o) = encF (f ++ [(x, o)]) := by
  unfold putD
  have e : ((encF f).any fun kv => decide (kv.1 = (Sum.inl x : Key))) = false := by
    have := valD_encF f x
    rw [h] at this
    rw [List.any_eq_false]
    intro kv hk z
    have z1 : kv.1 = Sum.inl x := of_decide_eq_true z
    unfold has at h
    rw [List.any_eq_false] at h
    unfold encF at hk
    obtain ⟨p, hp, rfl⟩ := List.mem_map.mp hk
    exact h p hp (by simpa using Sum.inl.inj z1)
  rw [e]
  simp [encF]
theorem encF_len (f : Fo) : (encF f).length = f.length := by simp [encF]
/-! ### what is found: no number twice, none below 0, none above top but the first -/
structure Good (n top : Int) (f : Fo) : Prop where
  nd : (f.map (·.1)).Nodup
  rg : ∀ p ∈ f, p.1 = n ∨ (0 ≤ p.1 ∧ p.1 ≤ top)
theorem has_mem {f : Fo} {x : Int} : has f x = true ↔ x ∈ f.map (·.1) := by
  unfold has
  rw [List.any_eq_true]
  constructor
  · rintro ⟨p, hp, e⟩
    exact List.mem_map.mpr ⟨p, hp, by simpa using e⟩
  · intro h
    obtain ⟨p, hp, e⟩ := List.mem_map.mp h
    exact ⟨p, hp, by simpa using e⟩
theorem Good.add {n top : Int} {f : Fo} (g : Good n top f) {y : Int} {o : Option (Int × Nat)} (h : has f y = false) (h0 : 0 ≤ y) (h1 : y ≤ top) : Good n top (f ++ [(y, o)]) := by
  refine ⟨?_, fun p hp => ?_⟩
  · rw [List.map_append, List.nodup_append]
    refine ⟨g.nd, by simp, fun a ha b hb => ?_⟩
    have : b = y := by simpa using hb
    subst this
    intro z
    subst z
    have := has_mem.mpr ha
    rw [h] at this
    cases this
  · rcases List.mem_append.mp hp with h | h
    · exact g.rg p h
    · have : p = (y, o) := by simpa using h
      subst this
      exact .inr ⟨h0, h1⟩
theorem count_le : ∀ (l : List Int) (n : Nat), l.Nodup → (∀ x ∈ l, 0 ≤ x ∧ x < (n : Int)) → l.length ≤ n
  | [], n, _, _ => Nat.zero_le _
  | l, 0, _, h => by
    cases l with
    | nil => exact Nat.zero_le _
    | cons a l =>
      have := h a List.mem_cons_self
      omega
  | l, n + 1, hd, h => by
    have h1 := count_le (l.erase n) n (hd.erase _) (fun x hx => by
      have hm := List.mem_of_mem_erase hx
      have hne : x ≠ (n : Int) := fun z => by
        subst z
        exact (List.Nodup.not_mem_erase hd) hx
      have := h x hm
      omega)
    have := List.length_erase_le (a := (n : Int)) (l := l)
    by_cases hm : (n : Int) ∈ l
    · rw [List.length_erase_of_mem hm] at h1
      omega
    · rw [List.erase_of_not_mem hm] at h1
      omega
theorem Good.len {n top : Int} {f : Fo} (g : Good n top f) : f.length ≤ top.toNat + 2 := by
  have h1 := count_le ((f.map (·.1)).erase n) (top.toNat + 1) (g.nd.erase _) (fun x hx => by
    have hm := List.mem_of_mem_erase hx
    have hne : x ≠ n := fun z => by
      subst z
      exact (List.Nodup.not_mem_erase g.nd) hx
    obtain ⟨p, hp, e⟩ := List.mem_map.mp hm
    have := g.rg p hp
    rw [e] at this
    omega)
  by_cases hm : n ∈ f.map (·.1)
  · rw [List.length_erase_of_mem hm, List.length_map] at h1
    omega
  · rw [List.erase_of_not_mem hm, List.length_map] at h1
    omega
/-- takes are no less than 0, and so are puts -/
def Rs (rs : List (Int × Int)) : Prop := ∀ r ∈ rs, 0 ≤ r.1 ∧ 0 ≤ r.1 + r.2
theorem zipIdx_mem {α : Type} {l : List α} {p : α × Nat} (h : p ∈ l.zipIdx) : p.1 ∈ l := by
  obtain ⟨a, k⟩ := p
  exact (List.mem_zipIdx' h).2 ▸ List.getElem_mem _
structure Grow (n top : Int) (f0 : Fo) (s : Fo × List Int) : Prop where
  g : Good n top s.1
  len : s.1.length = f0.length + s.2.length
theorem Grow.inner {n top x : Int} {f0 : Fo} {s : Fo × List Int} {rk : (Int × Int) × Nat} (g : Grow n top f0 s) (h : 0 ≤ rk.1.1 ∧ 0 ≤ rk.1.1 + rk.1.2) : Grow n top f0 (inner top x s rk) := by
  unfold Oc.inner
  split
  · rename_i c
    simp only [Bool.and_eq_true, decide_eq_true_eq, Bool.not_eq_true'] at c
    refine ⟨g.g.add c.2.2 (by omega) c.2.1, ?_⟩
    have := g.len
    simp only [List.length_append, List.length_singleton]
    omega
  · exact g
theorem Grow.fold {n top x : Int} {f0 : Fo} : ∀ (rks : List ((Int × Int) × Nat)) {s : Fo × List Int}, Grow n top f0 s → (∀ p ∈ rks, 0 ≤ p.1.1 ∧ 0 ≤ p.1.1 + p.1.2) → Grow n top f0 (rks.foldl (Oc.inner top x) s)
  | [], _, g, _ => g
  | r :: rks, s, g, h => Grow.fold rks (g.inner (h r List.mem_cons_self)) fun p hp => h p (List.mem_cons_of_mem _ hp)
theorem Grow.here {n top : Int} {f0 : Fo} {rs : List (Int × Int)} (hr : Rs rs) : ∀ (here : List Int) {s : Fo × List Int}, Grow n top f0 s → Grow n top f0 (here.foldl (fun s x => rs.zipIdx.foldl (Oc.inner top x) s) s)
  | [], _, g => g
  | x :: here, s, g => Grow.here hr here (g.fold rs.zipIdx fun p hp => hr _ (zipIdx_mem hp))
theorem Grow.level {n top : Int} {f : Fo} {rs : List (Int × Int)} (hr : Rs rs) (g : Good n top f) (here : List Int) : Grow n top f (level rs top f here) := Grow.here hr here ⟨g, rfl⟩
/-! ### all that comes -/
theorem bfs_good {n top : Int} {rs : List (Int × Int)} (hr : Rs rs) : ∀ (q : Nat) (f : Fo) (here : List Int), Good n top f → Good n top (bfs rs top q f here)
  | 0, f, _, g => g
  | q + 1, f, here, g => by
    unfold bfs
    split
    · exact g
    · exact bfs_good hr q _ _ (Grow.level hr g here).g
theorem ways_good {n top : Int} {rs : List (Int × Int)} (hr : Rs rs) : Good n top (ways rs n top) := bfs_good hr _ _ _ ⟨by simp, fun p hp => .inl (by simp at hp; rw [hp])⟩
def keysF (f : Fo) : List Int := f.map (·.1)
def srt (l : List Int) : List Int := l.mergeSort fun a b => decide (a ≤ b)
theorem srt_perm (l : List Int) : (srt l).Perm l := List.mergeSort_perm _ _
theorem srt_pw (l : List Int) : (srt l).Pairwise (· ≤ ·) := by
  have h := List.pairwise_mergeSort (le := fun a b : Int => decide (a ≤ b)) (by simp; omega) (by simp; omega) l
  exact h.imp fun h => of_decide_eq_true h
theorem srt_len (l : List Int) : (srt l).length = l.length := (srt_perm l).length_eq
theorem srt_mem {l : List Int} {x : Int} : x ∈ srt l ↔ x ∈ l := (srt_perm l).mem_iff
theorem encF_keys (f : Fo) : (encF f).map (·.1) = (keysF f).map Sum.inl := by simp [encF, keysF]
def topS (n y : Int) : Int := mx2 (mx2 n y) 9 + 18
def comeS (rs : List (Int × Int)) (n most : Int) : List Int := (srt (keysF (ways rs n (topS n most)))).filter fun x => decide (x ≤ most)
def isNumS : PD → Bool
  | .int _ => true
  | _ => false
def withinS : PD → Int → Int → Bool
  | .int v, lo, hi => decide (lo ≤ v) && decide (v ≤ hi)
  | _, _, _ => false
def risingAt (rs : List (Int × Int)) (x : Int) : List Int := (rs.filter fun r => decide (r.1 ≤ x) && decide (0 < r.2)).map (·.2)
def risingS (rs : List (Int × Int)) (n : Int) : Option (Int × Int) := (srt (keysF (ways rs n n))).findSome? fun x => (risingAt rs x).head?.map fun c => (x, c)
def encP : Option (Int × Int) → PD
  | none => .none
  | some p => enc2 p
def measS (rs : List (Int × Int)) : Int := rs.foldl (fun g r => ((Int.gcd g r.2 : Nat) : Int)) 0
end Oc
set_option Elab.async false
set_option linter.all false
set_option maxRecDepth 100000
set_option maxHeartbeats 0
namespace K38
open PySem PySem.Spec PyProof.Rows L2
def top (i : Nat) : Stmt := PySem.Challenge.pw_tokensteps_k38_whole_numbers_by_formula.main.body.getD i (.Pass ⟨0, 0, 0, 0⟩)
abbrev s_is_number : Stmt := top 8
abbrev s_is_within : Stmt := top 9
abbrev s_change_of : Stmt := top 10
abbrev s_rises_of : Stmt := top 14
abbrev s_ways_within : Stmt := top 15
abbrev s_top_for : Stmt := top 16
abbrev s_come_numbers : Stmt := top 17
abbrev s_comes_to : Stmt := top 18
abbrev s_rising_step : Stmt := top 19
abbrev s_is_endless : Stmt := top 20
abbrev s_net_measure : Stmt := top 21
abbrev s_full_from : Stmt := top 23
abbrev s_shape_up_to : Stmt := top 24
abbrev s_come_shape : Stmt := top 25
abbrev s_is_in_shape : Stmt := top 26
abbrev s_come_gaps : Stmt := top 27
abbrev s_way_or_none : Stmt := top 30
abbrev s_fewest_to : Stmt := top 31
abbrev s_way_to : Stmt := top 32
abbrev s_are_counter_steps : Stmt := top 33
abbrev s_number_fault : Stmt := top 34
abbrev s_way_to_error : Stmt := top 35
abbrev s_number_paper : Stmt := top 36
abbrev s_is_shape : Stmt := top 37
abbrev s_open_fault : Stmt := top 38
abbrev s_shape_fault : Stmt := top 39
abbrev s_number_paper_error : Stmt := top 40
abbrev s__law_own_bag : Stmt := top 42
abbrev s__law_draw : Stmt := top 43
abbrev s__law_pick : Stmt := top 44
abbrev s__law_told : Stmt := top 45
abbrev s__law_same : Stmt := top 46
abbrev s__law_is : Stmt := top 47
abbrev s__law_shared : Stmt := top 48
abbrev s__law_are_sums : Stmt := top 49
abbrev s__law_all : Stmt := top 50
abbrev s__law_is_emptied : Stmt := top 51
abbrev s__law_is_both : Stmt := top 52
abbrev s_law : Stmt := top 53
abbrev dD (x : Str) (st : Stmt) : He.DefD := ⟨(x, none), x, x, defArgs st, defBody st, defScope st, [], []⟩
def d_is_number : He.DefD := dD "is_number" s_is_number
def d_is_within : He.DefD := dD "is_within" s_is_within
def d_change_of : He.DefD := dD "change_of" s_change_of
def d_rises_of : He.DefD := dD "rises_of" s_rises_of
def d_ways_within : He.DefD := dD "ways_within" s_ways_within
def d_top_for : He.DefD := dD "top_for" s_top_for
def d_come_numbers : He.DefD := dD "come_numbers" s_come_numbers
def d_comes_to : He.DefD := dD "comes_to" s_comes_to
def d_rising_step : He.DefD := dD "rising_step" s_rising_step
def d_is_endless : He.DefD := dD "is_endless" s_is_endless
def d_net_measure : He.DefD := dD "net_measure" s_net_measure
def d_full_from : He.DefD := dD "full_from" s_full_from
def d_shape_up_to : He.DefD := dD "shape_up_to" s_shape_up_to
def d_come_shape : He.DefD := dD "come_shape" s_come_shape
def d_is_in_shape : He.DefD := dD "is_in_shape" s_is_in_shape
def d_come_gaps : He.DefD := dD "come_gaps" s_come_gaps
def d_way_or_none : He.DefD := dD "way_or_none" s_way_or_none
def d_fewest_to : He.DefD := dD "fewest_to" s_fewest_to
def d_way_to : He.DefD := dD "way_to" s_way_to
def d_are_counter_steps : He.DefD := dD "are_counter_steps" s_are_counter_steps
def d_number_fault : He.DefD := dD "number_fault" s_number_fault
def d_way_to_error : He.DefD := dD "way_to_error" s_way_to_error
def d_number_paper : He.DefD := dD "number_paper" s_number_paper
def d_is_shape : He.DefD := dD "is_shape" s_is_shape
def d_open_fault : He.DefD := dD "open_fault" s_open_fault
def d_shape_fault : He.DefD := dD "shape_fault" s_shape_fault
def d_number_paper_error : He.DefD := dD "number_paper_error" s_number_paper_error
def d__law_own_bag : He.DefD := dD "_law_own_bag" s__law_own_bag
def d__law_draw : He.DefD := dD "_law_draw" s__law_draw
def d__law_pick : He.DefD := dD "_law_pick" s__law_pick
def d__law_told : He.DefD := dD "_law_told" s__law_told
def d__law_same : He.DefD := dD "_law_same" s__law_same
def d__law_is : He.DefD := dD "_law_is" s__law_is
def d__law_shared : He.DefD := dD "_law_shared" s__law_shared
def d__law_are_sums : He.DefD := dD "_law_are_sums" s__law_are_sums
def d__law_all : He.DefD := dD "_law_all" s__law_all
def d__law_is_emptied : He.DefD := dD "_law_is_emptied" s__law_is_emptied
def d__law_is_both : He.DefD := dD "_law_is_both" s__law_is_both
def d_law : He.DefD := dD "law" s_law
def fn : List He.DefD := ([d_is_number, d_is_within, d_change_of, d_rises_of, d_ways_within, d_top_for, d_come_numbers, d_comes_to, d_rising_step, d_is_endless, d_net_measure, d_full_from, d_shape_up_to, d_come_shape, d_is_in_shape, d_come_gaps, d_way_or_none, d_fewest_to, d_way_to, d_are_counter_steps, d_number_fault, d_way_to_error, d_number_paper, d_is_shape, d_open_fault, d_shape_fault, d_number_paper_error, d__law_own_bag, d__law_draw, d__law_pick] : List He.DefD) ++ ([d__law_told, d__law_same, d__law_is, d__law_shared, d__law_are_sums, d__law_all, d__law_is_emptied, d__law_is_both, d_law] : List He.DefD)
def fa : List He.Fa := ([.glo "is_number", .glo "is_within", .glo "change_of", .glo "rises_of", .glo "ways_within", .glo "top_for", .glo "come_numbers", .glo "comes_to", .glo "rising_step", .glo "is_endless", .glo "net_measure", .glo "full_from", .glo "shape_up_to", .glo "come_shape", .glo "is_in_shape", .glo "come_gaps", .glo "way_or_none", .glo "fewest_to", .glo "way_to", .glo "are_counter_steps"] : List He.Fa) ++ ([.glo "number_fault", .glo "way_to_error", .glo "number_paper", .glo "is_shape", .glo "open_fault", .glo "shape_fault", .glo "number_paper_error", .glo "_law_own_bag", .glo "_law_draw", .glo "_law_pick", .glo "_law_told", .glo "_law_same", .glo "_law_is", .glo "_law_shared", .glo "_law_are_sums", .glo "_law_all", .glo "_law_is_emptied", .glo "_law_is_both", .glo "law", .glo "StepError"] : List He.Fa) ++ ([.glo "Unfit", .glo "TooMany", .int "MAX_WEIGHT" 9, .int "MAX_TOKENS" 1000000000, .int "MAX_LISTED" 500, .int "MOST_ABOVE" 18, .int "FREE_FROM" 9, .int "MOST_TERMS" 30, .free "ValueError", .free "abs", .free "all", .free "bool", .free "dict", .free "enumerate", .free "int", .free "isinstance", .free "len", .free "list", .free "max", .free "min"] : List He.Fa) ++ ([.free "range", .free "repr", .free "reversed", .free "sorted", .free "str", .free "super", .free "tuple", .free "zip"] : List He.Fa)
def tf : List He.Defn := ([("_law_are_sums", none), ("_law_is_emptied", none), ("_law_is_both", none)] : List He.Defn)
def loose : List Str := (["MAX_WEIGHT", "MAX_TOKENS", "MAX_LISTED", "StepError", "Unfit", "TooMany", "is_number", "is_within", "change_of", "MOST_ABOVE", "FREE_FROM", "rises_of", "ways_within", "top_for", "come_numbers", "comes_to", "rising_step", "is_endless", "net_measure", "full_from", "shape_up_to", "come_shape", "is_in_shape", "come_gaps", "MOST_TERMS", "way_or_none", "fewest_to", "way_to", "are_counter_steps", "number_fault"] : List Str) ++ (["way_to_error", "number_paper", "is_shape", "open_fault", "shape_fault", "number_paper_error", "_law_own_bag", "_law_draw", "_law_pick", "_law_told", "_law_same", "_law_is", "_law_shared", "_law_are_sums", "_law_all", "_law_is_emptied", "_law_is_both"] : List Str)
abbrev R : PySem.W.OpenRow := PySem.W.OpenLaw.row PySem.Challenge.rw_tokensteps_k38_whole_numbers_by_formula
def apart : List Addr → Bool
  | [] => true
  | a :: r => (r.all fun b => !(Nat.beq a b)) && apart r
def exT (K : PySem.W.Frag) : Bool := apart (tf.map fun p => (He.cT K p).2)
abbrev hk : PySem.W.Hook := He.hookX 5 fa fn [] tf exT
def ob (s : PySem.W.SharedT) : He.AlX := He.obsX 5 fa fn [] tf exT (HandSHeadRun.getT s)
theorem ob_eq (s : PySem.W.SharedT) : ob s = hk.obs s.abs := He.obsX_eq (HandSHeadRun.getT_eq s)
set_option Elab.async false
theorem run (w : World) : HandSHeadRun.RunEq R (PySem.W.view R.prog [53]) hk ob 4000 loose w := by
  intro os
  kernel_rfl
end K38
set_option Elab.async false
set_option linter.all false
set_option maxRecDepth 100000
set_option maxHeartbeats 4000000
namespace K38
open PySem PySem.Spec PyProof.Rows L2 Pv
open Oc
abbrev BN : List Str := ["ValueError", "abs", "all", "bool", "dict", "enumerate", "int", "isinstance", "len", "list", "max", "min", "range", "repr", "reversed", "sorted", "str", "super", "tuple", "zip"]
/-- the module's names -/
structure Md (K : PySem.W.Frag) (mg : Str → Option Value) : Prop where
  fr : ∀ s ∈ BN, mg s = none
  d_is_number : Fd K mg "is_number" s_is_number
  d_is_within : Fd K mg "is_within" s_is_within
  d_change_of : Fd K mg "change_of" s_change_of
  d_rises_of : Fd K mg "rises_of" s_rises_of
  d_ways_within : Fd K mg "ways_within" s_ways_within
  d_top_for : Fd K mg "top_for" s_top_for
  d_come_numbers : Fd K mg "come_numbers" s_come_numbers
  d_comes_to : Fd K mg "comes_to" s_comes_to
  d_rising_step : Fd K mg "rising_step" s_rising_step
  d_is_endless : Fd K mg "is_endless" s_is_endless
  d_net_measure : Fd K mg "net_measure" s_net_measure
  d_full_from : Fd K mg "full_from" s_full_from
  d_shape_up_to : Fd K mg "shape_up_to" s_shape_up_to
  d_come_shape : Fd K mg "come_shape" s_come_shape
  d_is_in_shape : Fd K mg "is_in_shape" s_is_in_shape
  d_come_gaps : Fd K mg "come_gaps" s_come_gaps
  d_way_or_none : Fd K mg "way_or_none" s_way_or_none
  d_fewest_to : Fd K mg "fewest_to" s_fewest_to
  d_way_to : Fd K mg "way_to" s_way_to
  d_are_counter_steps : Fd K mg "are_counter_steps" s_are_counter_steps
  d_number_fault : Fd K mg "number_fault" s_number_fault
  d_way_to_error : Fd K mg "way_to_error" s_way_to_error
  d_number_paper : Fd K mg "number_paper" s_number_paper
  d_is_shape : Fd K mg "is_shape" s_is_shape
  d_open_fault : Fd K mg "open_fault" s_open_fault
  d_shape_fault : Fd K mg "shape_fault" s_shape_fault
  d_number_paper_error : Fd K mg "number_paper_error" s_number_paper_error
  d__law_own_bag : Fd K mg "_law_own_bag" s__law_own_bag
  d__law_draw : Fd K mg "_law_draw" s__law_draw
  d__law_pick : Fd K mg "_law_pick" s__law_pick
  d__law_told : Fd K mg "_law_told" s__law_told
  d__law_same : Fd K mg "_law_same" s__law_same
  d__law_is : Fd K mg "_law_is" s__law_is
  d__law_shared : Fd K mg "_law_shared" s__law_shared
  d__law_are_sums : Fd K mg "_law_are_sums" s__law_are_sums
  d__law_all : Fd K mg "_law_all" s__law_all
  d__law_is_emptied : Fd K mg "_law_is_emptied" s__law_is_emptied
  d__law_is_both : Fd K mg "_law_is_both" s__law_is_both
  i_MAX_WEIGHT : ∃ t, mg "MAX_WEIGHT" = some (.int 9 t)
  i_MAX_TOKENS : ∃ t, mg "MAX_TOKENS" = some (.int 1000000000 t)
  i_MAX_LISTED : ∃ t, mg "MAX_LISTED" = some (.int 500 t)
  i_MOST_ABOVE : ∃ t, mg "MOST_ABOVE" = some (.int 18 t)
  i_FREE_FROM : ∃ t, mg "FREE_FROM" = some (.int 9 t)
  i_MOST_TERMS : ∃ t, mg "MOST_TERMS" = some (.int 30 t)
theorem bi {Y : Fam} {s : Str} {f : Value} (hm : Md Y.K Y.mg) (hg : Gb Y s := by rfl) (hs : s ∈ BN := by decide) (hv : bootBuiltins s = some f := by rfl) : BI Y s f := ⟨hg, hm.fr s hs, hv⟩
section
variable {P : Program} {w : World} {K : PySem.W.Frag} {mg : Str → Option Value} {base : Heap}
def changeR : List Sv → Sv → Prop := fun xs y => ∃ (net : Net) (k : Nat) (s : List Int × List Int), xs = [.d (netD net), .d (.int k)] ∧ net[k]? = some s ∧ s.1.length = s.2.length ∧ s.1.length ≤ 100000 ∧ y = .d (rowD ((s.1.zip s.2).map fun p => p.2 - p.1))
theorem sc_change_of : FnScope ["net", "k", "taken", "put"] ["net", "k"] (defScope s_change_of) := ⟨rfl, rfl, rfl, by decide, rfl, by decide, by decide⟩
theorem fn_change_of (hm : Md K mg) : Cl P w K mg base 1 "change_of" s_change_of ["net", "k"] (pureSp K changeR) := by
  refine .of hm.d_change_of (fun _ _ _ _ _ _ us hl => match us, hl with | [_, _], _ => rfl) fun f fd F => fnPure F sc_change_of (by rintro _ _ ⟨_, _, _, rfl, _⟩; rfl) ?_
  rintro cdv A outer s H hr vs W xs y ha ⟨net, k, s1, rfl, hk, he, hl, rfl⟩ D hD _
  obtain ⟨v1, v2, rfl, h1, h2⟩ := ha.inv2
  refine s_ret0 (i := ()) (e_tupL (bi hm) (EL.E (el_lcM [("taken", 2), ("put", 3)] (fun p : Int × Int => .int (p.2 - p.1)) (ei_zipE (xs := s1.1) (ys := s1.2) (bi hm) (e_ixt (e_ixt (e_v 0 h1) (e_v 1 h2) (at_map hk)) e_int rfl) (e_ixt (e_ixt (e_v 0 h1) (e_v 1 h2) (at_map hk)) e_int rfl)) (by simp; omega) ?_))) (Le.refl W) hD (by simp [rowD, Function.comp_def])
  rintro T0 l0 ⟨a1, a2⟩ hka x T hf r hx
  obtain ⟨t, u1, u2, rfl, ht, e1, e2⟩ := dp2 hx
  exact ⟨_, fun Q hQ => g_tup rfl (sqT_sub T ht) (gs_cons (g_n 2 (gs_cons (g_n 3 (gs_nil hQ))))) rfl, rfl, e_sub (e_v 3 e2) (e_v 2 e1)⟩

def risesR : List Sv → Sv → Prop := fun xs y => ∃ st : St1, xs = [.d (oneD st)] ∧ st.length ≤ 1000 ∧ y = .d (.list ((risesS st).map enc2))
theorem sc_rises_of : FnScope ["net", "k"] ["net"] (defScope s_rises_of) := ⟨rfl, rfl, rfl, by decide, rfl, by decide, by decide⟩
theorem fn_rises_of (hm : Md K mg) : Cl P w K mg base 2 "rises_of" s_rises_of ["net"] (pureSp K risesR) := by
  have C1 := fn_change_of (P := P) (w := w) (base := base) hm
  refine .of hm.d_rises_of (fun _ _ _ _ _ _ us hl => match us, hl with | [_], _ => rfl) fun f fd F => fnPure F sc_rises_of (by rintro _ _ ⟨_, rfl, _⟩; rfl) ?_
  rintro cdv A outer s H hr vs W xs y ha ⟨st, rfl, hl, rfl⟩ D hD _
  obtain ⟨v1, rfl, h1⟩ := ha.inv1
  refine s_ret0 (i := ()) (EL.E (el_lcM [("k", 1)] (fun k : Int => (((risesS st).map enc2)[k.toNat]?).getD .none) (ei_rg1E (bi hm) (e_lenT (bi hm) (e_v 0 h1)) ?_) ?_ ?_)) (Le.refl W) hD ?_
  · simp [one]
    omega
  · simp [rgI_len, one]
    omega
  · rintro T0 l0 a hka x T hf r hx
    obtain ⟨k, hk, rfl⟩ : ∃ k : Nat, k < st.length ∧ a = (k : Int) := by
      obtain ⟨k, hk, e⟩ := List.mem_map.mp hka
      refine ⟨k, by simpa [one] using hk, ?_⟩
      rw [← e]
      omega
    have hx' := Is.int (K := K) hx
    subst hx'
    have hs : (one st)[k]? = some ([st[k].1], [st[k].2]) := by simp [one, hk]
    have hp : (((risesS st).map enc2)[((k : Nat) : Int).toNat]?).getD .none = .tuple [.int st[k].1, .int (st[k].2 - st[k].1)] := by
      simp [risesS, hk, enc2]
    rw [hp]
    refine ⟨_, fun Q hQ => g_n 1 hQ, rfl, e_tup (ed_cons (e_ixt (e_ixt (e_ixt (e_v 0 (h1.fl hf)) (e_v 1 hx) (at_map hs)) e_int rfl) e_int rfl) (ed_cons (e_ixt (e_callD C1 (ea_cons (e_v 0 (h1.fl hf)) (ea_cons (e_v 1 hx) ea_nil)) ⟨_, k, _, rfl, hs, rfl, by simp, rfl⟩) e_int rfl) ed_nil))⟩
  · congr 2
    apply List.ext_getElem?
    intro k
    by_cases hk : k < st.length
    · simp [rgI, one, risesS, hk]
    · simp [rgI, one, risesS, hk]
end
end K38
set_option Elab.async false
set_option linter.all false
set_option maxRecDepth 100000
set_option maxHeartbeats 4000000
namespace K38
open PySem PySem.Spec PyProof.Rows L2 Pv Oc
section
variable {P : Program} {w : World} {K : PySem.W.Frag} {mg : Str → Option Value} {base : Heap}
def waysR : List Sv → Sv → Prop := fun xs y => ∃ (st : St1) (n top : Int), xs = [.d (oneD st), .d (.int n), .d (.int top)] ∧ st.length ≤ 1000 ∧ Rs (risesS st) ∧ top < 50000 ∧ y = .dk (encF (ways (risesS st) n top))
theorem sc_ways_within : FnScope ["net", "n", "top", "rises", "found", "here", "further", "x", "k", "least", "change"] ["net", "n", "top"] (defScope s_ways_within) := ⟨rfl, rfl, rfl, by decide, rfl, by decide, by decide⟩
theorem eqv_nil (ns : List Int) : (!PyData.eqv (.list (ns.map .int)) (.list [])) = !decide (ns = []) := by
  cases ns with
  | nil => rfl
  | cons a l => rfl
theorem fn_ways_within (hm : Md K mg) : Cl P w K mg base 3 "ways_within" s_ways_within ["net", "n", "top"] (pureSp K waysR) := by
  have C1 := fn_rises_of (P := P) (w := w) (base := base) hm
  refine .of hm.d_ways_within (fun _ _ _ _ _ _ us hl => match us, hl with | [_, _, _], _ => rfl) fun f fd F => fnPure F sc_ways_within (by rintro _ _ ⟨_, _, _, rfl, _⟩; rfl) ?_
  rintro cdv A outer s H hr vs W xs y ha ⟨st, n, top, rfl, hl, hrs, htop, rfl⟩ D hD _
  obtain ⟨v1, v2, v3, rfl, h1, h2, h3⟩ := ha.inv3
  refine s_par3G (i := ()) (m := m0) (eg_cons (e_callD C1 (ea_cons (e_v 0 h1) ea_nil) ⟨st, rfl, hl, rfl⟩) (eg_cons (ed_one (e_v 1 h2) e_non) (eg_cons (EL.E (el_lst (ed_cons (e_v 1 h2) ed_nil))) eg_nil))) True.intro (n1 := 3) (n2 := 4) (n3 := 5) rfl rfl rfl (by decide) (by decide) (by decide) rfl rfl rfl ?_
  rintro vs T l1 _ ⟨vr, rest1, T1, rfl, l2, hrl, l3, ⟨_, rest2, T2, rfl, l4, ⟨qf, kvs, rfl, hq1, hq2, hq3, hq4⟩, l5, ⟨vh, rest3, T3, rfl, l6, hhe, l7, rfl⟩⟩⟩
  refine ⟨_, _, _, rfl, ?_⟩
  have hq0 : W.H qf = none := l2.back hq1
  have oD : OwnD K T qf (encF [(n, none)]) := OwnD.le (M := M0) ⟨hq2, kvs, hq3, hq4⟩ l5 (fun z => z)
  have hrl' : Is K T.F vr (.d (.list ((risesS st).map enc2))) := hrl.le l3
  have hh' : Is K T.F vh (.d (.list ([n].map .int))) := hhe.le l7
  have g0 : Good n top [(n, none)] := ⟨by simp, fun p hp => .inl (by simp at hp; rw [hp])⟩
  show wSs _ _ D [some v1, some v2, some v3, some vr, some (.ref qf), some vh, none, none, none, none, none] T.H
  refine s_while (m := m0) (i := ()) (fun q σ' T' _ => ∃ (found : Fo) (here : List Int) (hv : V) (fv xv kv lv cv : Option V), σ' = [some v1, some v2, some v3, some vr, some (.ref qf), some hv, fv, xv, kv, lv, cv] ∧ Is K T'.F hv (.d (.list (here.map .int))) ∧ OwnD K T' qf (encF found) ∧
    Le M0 W T' ∧ Good n top found ∧ bfs (risesS st) top q found here = ways (risesS st) n top ∧ (here = [] ∨ top.toNat + 2 < found.length + q)) (top.toNat + 3) ⟨_, _, _, _, _, _, _, _, rfl, hh', oD, l1, g0, rfl, .inr (by simp; omega)⟩ True.intro ?_
  rintro q _ T4 _ _ f4 ⟨found, here, hv, fv, xv, kv, lv, cv, rfl, hh, oD, l8, gd, hb, hq⟩
  refine ⟨_, (), EC.tst (c_neR (E.rl (e_v 5 hh)) (EL.E (el_lst ed_nil)) (shaped_ints here) rfl), fun hu T5 l9 _ => ?_, fun hu T5 l9 _ => ?_⟩
  · rw [eqv_nil] at hu
    have hne : here ≠ [] := by simpa using hu
    have hq' : top.toNat + 2 < found.length + q := hq.resolve_left hne
    have hfl := gd.len
    obtain ⟨q', rfl⟩ : ∃ q', q = q' + 1 := ⟨q - 1, by omega⟩
    have hb' : bfs (risesS st) top q' (level (risesS st) top found here).1 (level (risesS st) top found here).2 = ways (risesS st) n top := by
      rw [← hb]
      simp [bfs, hne]
    have gl := Grow.level hrs gd here
    refine s_stG (m := m0) (i := ()) 6 (el_lst ed_nil) True.intro ?_
    rintro _ T6 l10 _ ⟨qu, us, rfl, u1, u2, u3, u4⟩
    have oL : OwnL K T6 qu (([] : List Int).map .int) := ⟨u2, us, u3, u4⟩
    have oD6 : OwnD K T6 qf (encF found) := (oD.le l9 (fun z => z)).le l10 (fun z => z)
    have hqu : W.H qu = none := (l8.trans l9).back u1
    have hne2 : qf ≠ qu := by
      obtain ⟨_, _, h, _⟩ := oD.le l9 (fun z => z)
      intro z
      rw [z, u1] at h
      cases h
    have F6 : Fl T T6 := f4.trans ((l9.trans l10).fl)
    show wSs _ _ _ [some v1, some v2, some v3, some vr, some (.ref qf), some hv, some (.ref qu), xv, kv, lv, cv] T6.H
    refine s_forE (m := m0) (i := ()) (xs := here) (enc := .int) (fun T0 done σ' T' _ => ∃ (xv kv lv cv : Option V), σ' = [some v1, some v2, some v3, some vr, some (.ref qf), some hv, some (.ref qu), xv, kv, lv, cv] ∧
      OwnD K T' qf (encF (level (risesS st) top found done).1) ∧ OwnL K T' qu ((level (risesS st) top found done).2.map .int) ∧ Le M0 W T') (ei_lstE (e_v 5 ((hh.le l9).le l10))) True.intro (fun T0 l0 _ => ⟨_, _, _, _, rfl, oD6.le l0 (fun z => z), oL.le l0 (fun z => z), ((l8.trans l9).trans l10).trans l0⟩) ?_ ?_
    · rintro T0 l0 done x todo hx _ T7 _ f7 _ ⟨xv, kv, lv, cv, rfl, oD7, oL7, l11⟩ vx T8 l12 _ hvx
      refine g_n 7 ?_
      have hvx' := Is.int (K := K) hvx
      subst hvx'
      have F8 : Fl T T8 := F6.trans (l0.fl.trans (f7.trans l12.fl))
      have gx : Grow n top found (level (risesS st) top found done) := Grow.level hrs gd done
      show wSs _ _ _ [some v1, some v2, some v3, some vr, some (.ref qf), some hv, some (.ref qu), some (.int x), kv, lv, cv] T8.H
      refine s_forE (m := m0) (i := ()) (xs := (risesS st).zipIdx) (enc := fun r => .tuple [.int (r.2 : Int), enc2 r.1]) (fun T0' done' σ' T' _ => ∃ (kv lv cv : Option V), σ' = [some v1, some v2, some v3, some vr, some (.ref qf), some hv, some (.ref qu), some (.int x), kv, lv, cv] ∧
        OwnD K T' qf (encF (done'.foldl (inner top x) (level (risesS st) top found done)).1) ∧ OwnL K T' qu ((done'.foldl (inner top x) (level (risesS st) top found done)).2.map .int) ∧ Le M0 W T') (ei_enumLE (bi hm) (e_v 3 (hrl'.fl F8))) True.intro (fun T0' l0' _ => ⟨_, _, _, rfl, (oD7.le l12 (fun z => z)).le l0' (fun z => z), (oL7.le l12 (fun z => z)).le l0' (fun z => z), (l11.trans l12).trans l0'⟩) ?_ ?_
      · rintro T0' l0' done' ⟨⟨le, ch⟩, ki⟩ todo' hx' _ T9 _ f9 _ ⟨kv, lv, cv, rfl, oD9, oL9, l13⟩ vx9 T10 l14 _ hvx9
        obtain ⟨t1, w1, w2, rfl, ht1, hw1, hw2⟩ := dp2 hvx9
        obtain ⟨t2, w3, w4, rfl, ht2, hw3, hw4⟩ := dp2 hw2
        have e1 := Is.int hw1
        have e3 := Is.int hw3
        have e4 := Is.int hw4
        subst e1 e3 e4
        refine g_tup rfl (sqT_sub T10 ht1) (gs_cons (g_n 8 (gs_cons (g_tup rfl (sqT_sub T10 ht2) (gs_cons (g_n 9 (gs_cons (g_n 10 (gs_nil (gs_nil ?_)))))) rfl)))) rfl
        have F10 : Fl T T10 := F8.trans (l0'.fl.trans (f9.trans l14.fl))
        have g9 : Grow n top found (done'.foldl (inner top x) (level (risesS st) top found done)) := gx.fold done' fun p hp => hrs _ (zipIdx_mem (by rw [hx']; exact List.mem_append_left _ hp))
        have oD10 := oD9.le l14 (fun z => z)
        have oL10 := oL9.le l14 (fun z => z)
        have l15 := l13.trans l14
        have hstep : (done' ++ [((le, ch), ki)]).foldl (inner top x) (level (risesS st) top found done) = inner top x (done'.foldl (inner top x) (level (risesS st) top found done)) ((le, ch), ki) := by
          rw [List.foldl_append] <;> rfl
        generalize hz : done'.foldl (inner top x) (level (risesS st) top found done) = z at g9 oD10 oL10 hstep
        have hx3 : Is K T10.F (V.int x) (.d (.int x)) := Dp.int _
        show wSs _ _ _ [some v1, some v2, some v3, some vr, some (.ref qf), some hv, some (.ref qu), some (.int x), some (.int ki), some (.int le), some (.int ch)] T10.H
        refine s_when (m := m0) (i := ()) (et_w (ew_and (EC.tst (c_ge (e_v 7 hx3) (e_v 9 hw3))) (fun _ => ew_and (EC.tst (c_leq (e_add (e_v 7 hx3) (e_v 10 hw4)) (e_v 2 (h3.fl (l1.fl.trans F10))))) (fun _ => ew_and1 (EC.tst (c_dnotin (e_add (e_v 7 hx3) (e_v 10 hw4)) (rd_v 4 oD10 (fun z => z)))))))) True.intro ?_ ?_
        · intro hu T11 l16 _
          rw [valD_encF] at hu
          have hi : inner top x z ((le, ch), ki) = (z.1 ++ [(x + ch, some (x, ki))], z.2 ++ [x + ch]) := by
            unfold inner
            rw [if_pos hu]
          have hn : has z.1 (x + ch) = false := by
            simp only [Bool.and_eq_true, Bool.not_eq_true'] at hu
            exact hu.2.2
          have hzl := g9.g.len
          refine s_dput (m := m0) (i := ()) (g := x + ch) (e_tup (ed_cons (e_v 7 (hx3.le l16)) (ed_cons (e_v 8 (hw1.le l16)) ed_nil))) (fun T l => e_vat 4) (fun T l => e_add (e_v 7 ((hx3.le l16).le l)) (e_v 10 ((hw4.le l16).le l))) True.intro (oD10.le l16 (fun z => z)) (fun z => z) (by rw [encF_len]; omega) ?_
          intro T12 l17 _ oD12
          refine s_append (m := m0) (i := ()) (e_vat 6) (e_add (e_v 7 ((hx3.le l16).le l17)) (e_v 10 ((hw4.le l16).le l17))) True.intro ((oL10.le l16 (fun z => z)).mx l17 (fun z => z) (Ne.symm hne2)) (fun z => z) (by rw [List.length_map]; have := g9.len; omega) ?_
          intro T13 l18 _ oL13
          refine s_nil (s_nil ⟨T13, (), rfl, f9.trans (l14.fl.trans (l16.fl.trans (l17.fl.trans l18.fl))), True.intro, _, _, _, rfl, ?_, ?_, ((l15.trans l16).step l17 hq0).step l18 hqu⟩)
          · rw [hstep, hi]
            have := putD_encF z.1 (x + ch) (some (x, ki)) hn
            rw [← this]
            exact oD12.mx l18 (fun z => z) hne2
          · rw [hstep, hi]
            rw [List.map_append]
            exact oL13
        · intro hu T11 l16 _
          rw [valD_encF] at hu
          have hi : inner top x z ((le, ch), ki) = z := by
            unfold inner
            rw [if_neg (by rw [hu]; exact Bool.false_ne_true)]
          refine s_nil ⟨T11, (), rfl, f9.trans (l14.fl.trans l16.fl), True.intro, _, _, _, rfl, ?_, ?_, l15.trans l16⟩
          · rw [hstep, hi]
            exact oD10.le l16 (fun z => z)
          · rw [hstep, hi]
            exact oL10.le l16 (fun z => z)
      · rintro T0' l0' _ T9 _ f9 _ ⟨kv, lv, cv, rfl, oD9, oL9, l13⟩
        have e : (risesS st).zipIdx.foldl (inner top x) (level (risesS st) top found done) = level (risesS st) top found (done ++ [x]) := by
          unfold level
          rw [List.foldl_append] <;> rfl
        rw [e] at oD9 oL9
        exact s_nil ⟨T9, (), rfl, f7.trans (l12.fl.trans (l0'.fl.trans f9)), True.intro, _, _, _, _, rfl, oD9, oL9, l13⟩
    · rintro T0 l0 _ T7 _ f7 _ ⟨xv, kv, lv, cv, rfl, oD7, oL7, l11⟩
      refine s_st (m := m0) (i := ()) 5 (EL.E (el_listR (bi hm) (rl_v 6 oL7 (fun z => z)))) True.intro ?_
      intro vh2 T8 l12 _ hh2
      have gl1 := gl.len
      refine s_nil ⟨_, T8, (), Nat.lt_succ_self q', rfl, f4.trans ((l9.trans l10).fl.trans (l0.fl.trans (f7.trans l12.fl))), True.intro, _, _, _, _, _, _, _, _, rfl, hh2, oD7.le l12 (fun z => z), l11.trans l12, gl.g, hb', ?_⟩
      by_cases hz : (level (risesS st) top found here).2 = []
      · exact .inl hz
      · right
        have : 0 < (level (risesS st) top found here).2.length := List.length_pos_iff.mpr hz
        omega
  · rw [eqv_nil] at hu
    have hne : here = [] := by simpa using hu
    subst hne
    rw [bfs_nil] at hb
    subst hb
    exact s_retD 4 (oD.le l9 (fun z => z)) (l8.trans l9) hq0 hD
end
end K38
set_option Elab.async false
set_option linter.all false
set_option maxRecDepth 100000
set_option maxHeartbeats 4000000
namespace K38
open PySem PySem.Spec PyProof.Rows L2 Pv Oc
section
variable {P : Program} {w : World} {K : PySem.W.Frag} {mg : Str → Option Value} {base : Heap}
def isNumR : List Sv → Sv → Prop := fun xs y => ∃ d, xs = [.d d] ∧ y = .d (.bool (isNumS d))
theorem sc_is_number : FnScope ["value"] ["value"] (defScope s_is_number) := ⟨rfl, rfl, rfl, by decide, rfl, by decide, by decide⟩
theorem fn_is_number (hm : Md K mg) : Cl P w K mg base 1 "is_number" s_is_number ["value"] (pureSp K isNumR) := by
  refine .of hm.d_is_number (fun _ _ _ _ _ _ us hl => match us, hl with | [_], _ => rfl) fun f fd F => fnPure F sc_is_number (by rintro _ _ ⟨_, rfl, _⟩; rfl) ?_
  rintro cdv A outer s H hr vs W xs y ha ⟨d, rfl, rfl⟩ D hD _
  obtain ⟨v1, rfl, h1⟩ := ha.inv1
  cases d with
  | none => exact s_ret0 (i := ()) (e_and (u := false) (v := true) (e_isinst (bi hm) (bi hm) (e_v 0 h1) rfl) (fun z => nomatch z)) (Le.refl W) hD
  | bool b => exact s_ret0 (i := ()) (e_and (u := true) (v := false) (e_isinst (bi hm) (bi hm) (e_v 0 h1) rfl) (fun z => e_one (e_not (e_isinst (u := true) (bi hm) (bi hm) (e_v 0 h1) rfl)))) (Le.refl W) hD
  | int b => exact s_ret0 (i := ()) (e_and (u := true) (v := true) (e_isinst (bi hm) (bi hm) (e_v 0 h1) rfl) (fun z => e_one (e_not (e_isinst (u := false) (bi hm) (bi hm) (e_v 0 h1) rfl)))) (Le.refl W) hD
  | str b => exact s_ret0 (i := ()) (e_and (u := false) (v := true) (e_isinst (bi hm) (bi hm) (e_v 0 h1) rfl) (fun z => nomatch z)) (Le.refl W) hD
  | list b => exact s_ret0 (i := ()) (e_and (u := false) (v := true) (e_isinst (bi hm) (bi hm) (e_v 0 h1) rfl) (fun z => nomatch z)) (Le.refl W) hD
  | tuple b => exact s_ret0 (i := ()) (e_and (u := false) (v := true) (e_isinst (bi hm) (bi hm) (e_v 0 h1) rfl) (fun z => nomatch z)) (Le.refl W) hD
  | dict b => exact s_ret0 (i := ()) (e_and (u := false) (v := true) (e_isinst (bi hm) (bi hm) (e_v 0 h1) rfl) (fun z => nomatch z)) (Le.refl W) hD
def withinR : List Sv → Sv → Prop := fun xs y => ∃ d lo hi, xs = [.d d, .d (.int lo), .d (.int hi)] ∧ y = .d (.bool (withinS d lo hi))
theorem sc_is_within : FnScope ["value", "low", "high"] ["value", "low", "high"] (defScope s_is_within) := ⟨rfl, rfl, rfl, by decide, rfl, by decide, by decide⟩
theorem fn_is_within (hm : Md K mg) : Cl P w K mg base 2 "is_within" s_is_within ["value", "low", "high"] (pureSp K withinR) := by
  have C1 := fn_is_number (P := P) (w := w) (base := base) hm
  refine .of hm.d_is_within (fun _ _ _ _ _ _ us hl => match us, hl with | [_, _, _], _ => rfl) fun f fd F => fnPure F sc_is_within (by rintro _ _ ⟨_, _, _, rfl, _⟩; rfl) ?_
  rintro cdv A outer s H hr vs W xs y ha ⟨d, lo, hi, rfl, rfl⟩ D hD _
  obtain ⟨v1, v2, v3, rfl, h1, h2, h3⟩ := ha.inv3
  by_cases hd : ∃ v, d = .int v
  · obtain ⟨v, rfl⟩ := hd
    exact s_ret0 (i := ()) (e_and (e_callD C1 (ea_cons (e_v 0 h1) ea_nil) ⟨_, rfl, rfl⟩) (fun _ => e_one (EC.val (c_leqleq (e_v 1 h2) (e_v 0 h1) (e_v 2 h3))))) (Le.refl W) hD
  · have e1 : isNumS d = false := by
      cases d <;> first | rfl | exact absurd ⟨_, rfl⟩ hd
    have e2 : withinS d lo hi = false := by
      cases d <;> first | rfl | exact absurd ⟨_, rfl⟩ hd
    exact s_ret0 (i := ()) (e_and (u := isNumS d) (v := true) (e_callD C1 (ea_cons (e_v 0 h1) ea_nil) ⟨_, rfl, rfl⟩) (fun z => by rw [e1] at z; cases z)) (Le.refl W) hD (by rw [e1, e2]; rfl)
def topR : List Sv → Sv → Prop := fun xs y => ∃ n z, xs = [.d (.int n), .d (.int z)] ∧ y = .d (.int (topS n z))
theorem sc_top_for : FnScope ["n", "y"] ["n", "y"] (defScope s_top_for) := ⟨rfl, rfl, rfl, by decide, rfl, by decide, by decide⟩
theorem fn_top_for (hm : Md K mg) : Cl P w K mg base 1 "top_for" s_top_for ["n", "y"] (pureSp K topR) := by
  refine .of hm.d_top_for (fun _ _ _ _ _ _ us hl => match us, hl with | [_, _], _ => rfl) fun f fd F => fnPure F sc_top_for (by rintro _ _ ⟨_, _, rfl, _⟩; rfl) ?_
  rintro cdv A outer s H hr vs W xs y ha ⟨n, z, rfl, rfl⟩ D hD _
  obtain ⟨v1, v2, rfl, h1, h2⟩ := ha.inv2
  exact s_ret0 (i := ()) (e_add (e_max3 (bi hm) (e_v 0 h1) (e_v 1 h2) (e_gint rfl hm.i_FREE_FROM)) (e_gint rfl hm.i_MOST_ABOVE)) (Le.refl W) hD
theorem topS_lt {n y : Int} (h1 : n < 40000) (h2 : y < 40000) : topS n y < 50000 := by
  unfold topS
  simp only [mx2_max]
  omega
theorem topS_ge (n y : Int) : n ≤ topS n y ∧ y ≤ topS n y ∧ 27 ≤ topS n y := by
  unfold topS
  simp only [mx2_max]
  omega
theorem ways_len {rs : List (Int × Int)} {n top : Int} (hr : Rs rs) (ht : top < 50000) : (ways rs n top).length ≤ 50002 := by
  have := (ways_good (n := n) (top := top) hr).len
  omega
/-- what most defs ask of a net and numbers -/
structure Ok (st : St1) (n y : Int) : Prop where
  l : st.length ≤ 1000
  r : Rs (risesS st)
  n : n < 40000
  y : y < 40000
def comeR : List Sv → Sv → Prop := fun xs y => ∃ st n most, xs = [.d (oneD st), .d (.int n), .d (.int most)] ∧ Ok st n most ∧ y = .d (rowD (comeS (risesS st) n most))
theorem sc_come_numbers : FnScope ["net", "n", "most", "x"] ["net", "n", "most"] (defScope s_come_numbers) := ⟨rfl, rfl, rfl, by decide, rfl, by decide, by decide⟩
theorem fn_come_numbers (hm : Md K mg) : Cl P w K mg base 4 "come_numbers" s_come_numbers ["net", "n", "most"] (pureSp K comeR) := by
  have C1 := fn_ways_within (P := P) (w := w) (base := base) hm
  have C2 := fn_top_for (P := P) (w := w) (base := base) hm
  refine .of hm.d_come_numbers (fun _ _ _ _ _ _ us hl => match us, hl with | [_, _, _], _ => rfl) fun f fd F => fnPure F sc_come_numbers (by rintro _ _ ⟨_, _, _, rfl, _⟩; rfl) ?_
  rintro cdv A outer s H hr vs W xs y ha ⟨st, n, most, rfl, ok, rfl⟩ D hD _
  obtain ⟨v1, v2, v3, rfl, h1, h2, h3⟩ := ha.inv3
  have ht := topS_lt ok.n ok.y
  refine s_ret0 (i := ()) (e_tupL (bi hm) (EL.E (el_lcE [("x", 3)] (fun x : Int => decide (x ≤ most)) .int (ei_lstE (EL.E (el_sortedD (ns := srt (keysF (ways (risesS st) n (topS n most)))) (bi hm) (E.rd (e_callD C1 (ea_cons (e_v 0 h1) (ea_cons (e_v 1 h2) (ea_cons (e_callD C2 (ea_cons (e_v 1 h2) (ea_cons (e_v 2 h3) ea_nil)) ⟨_, _, rfl, rfl⟩) ea_nil))) ⟨_, _, _, rfl, ok.l, ok.r, ht, rfl⟩)) (encF_keys _) (srt_perm _) (srt_pw _)))) ?_ ?_))) (Le.refl W) hD
  · rw [srt_len]
    have := ways_len (n := n) ok.r ht
    simp only [keysF, List.length_map]
    omega
  · rintro T0 l0 x hx v T hf r hv
    exact ⟨_, fun Q hQ => g_n 3 hQ, rfl, ets_one (EC.tst (c_leq (e_v 3 hv) (e_v 2 (h3.fl hf)))), fun _ => e_v 3 hv⟩
def comesR : List Sv → Sv → Prop := fun xs y => ∃ st n z, xs = [.d (oneD st), .d (.int n), .d (.int z)] ∧ Ok st n z ∧ y = .d (.bool (has (ways (risesS st) n (topS n z)) z))
theorem sc_comes_to : FnScope ["net", "n", "y"] ["net", "n", "y"] (defScope s_comes_to) := ⟨rfl, rfl, rfl, by decide, rfl, by decide, by decide⟩
theorem fn_comes_to (hm : Md K mg) : Cl P w K mg base 4 "comes_to" s_comes_to ["net", "n", "y"] (pureSp K comesR) := by
  have C1 := fn_ways_within (P := P) (w := w) (base := base) hm
  have C2 := fn_top_for (P := P) (w := w) (base := base) hm
  refine .of hm.d_comes_to (fun _ _ _ _ _ _ us hl => match us, hl with | [_, _, _], _ => rfl) fun f fd F => fnPure F sc_comes_to (by rintro _ _ ⟨_, _, _, rfl, _⟩; rfl) ?_
  rintro cdv A outer s H hr vs W xs y ha ⟨st, n, z, rfl, ok, rfl⟩ D hD _
  obtain ⟨v1, v2, v3, rfl, h1, h2, h3⟩ := ha.inv3
  have ht := topS_lt ok.n ok.y
  exact s_ret0 (i := ()) (EC.val (c_din (e_v 2 h3) (E.rd (e_callD C1 (ea_cons (e_v 0 h1) (ea_cons (e_v 1 h2) (ea_cons (e_callD C2 (ea_cons (e_v 1 h2) (ea_cons (e_v 2 h3) ea_nil)) ⟨_, _, rfl, rfl⟩) ea_nil))) ⟨_, _, _, rfl, ok.l, ok.r, ht, rfl⟩)))) (Le.refl W) hD (by rw [valD_encF])
end
end K38
set_option Elab.async false
set_option linter.all false
set_option maxRecDepth 100000
set_option maxHeartbeats 4000000
namespace K38
open PySem PySem.Spec PyProof.Rows L2 Pv Oc
section
variable {P : Program} {w : World} {K : PySem.W.Frag} {mg : Str → Option Value} {base : Heap}
theorem risingAt_mem {rs : List (Int × Int)} {x : Int} : (risingAt rs x).map PyData.int = (rs.filter fun r => decide (r.1 ≤ x) && decide (0 < r.2)).map fun r => PyData.int r.2 := by
  simp [risingAt, Function.comp_def]
def risingR : List Sv → Sv → Prop := fun xs y => ∃ st n, xs = [.d (oneD st), .d (.int n)] ∧ Ok st n n ∧ y = .d (encP (risingS (risesS st) n))
theorem sc_rising_step : FnScope ["net", "n", "x", "some", "least", "change"] ["net", "n"] (defScope s_rising_step) := ⟨rfl, rfl, rfl, by decide, rfl, by decide, by decide⟩
theorem fn_rising_step (hm : Md K mg) : Cl P w K mg base 4 "rising_step" s_rising_step ["net", "n"] (pureSp K risingR) := by
  have C1 := fn_ways_within (P := P) (w := w) (base := base) hm
  have C2 := fn_rises_of (P := P) (w := w) (base := base) hm
  refine .of hm.d_rising_step (fun _ _ _ _ _ _ us hl => match us, hl with | [_, _], _ => rfl) fun f fd F => fnPure F sc_rising_step (by rintro _ _ ⟨_, _, rfl, _⟩; rfl) ?_
  rintro cdv A outer s H hr vs W xs y ha ⟨st, n, rfl, ok, rfl⟩ D hD _
  obtain ⟨v1, v2, rfl, h1, h2⟩ := ha.inv2
  have ht : n < 50000 := by have := ok.n; omega
  refine s_forE (m := m0) (i := ()) (xs := srt (keysF (ways (risesS st) n n))) (enc := .int) (fun T0 done σ' T' _ => ∃ (a1 a2 a3 a4 : Option V), σ' = [some v1, some v2, a1, a2, a3, a4] ∧ Le M0 W T' ∧ risingS (risesS st) n = ((srt (keysF (ways (risesS st) n n))).drop done.length).findSome? fun x => (risingAt (risesS st) x).head?.map fun c => (x, c))
    (ei_lstE (EL.E (el_sortedD (ns := srt (keysF (ways (risesS st) n n))) (bi hm) (E.rd (e_callD C1 (ea_cons (e_v 0 h1) (ea_cons (e_v 1 h2) (ea_cons (e_v 1 h2) ea_nil))) ⟨_, _, _, rfl, ok.l, ok.r, ht, rfl⟩)) (encF_keys _) (srt_perm _) (srt_pw _)))) True.intro (fun T0 l0 _ => ⟨_, _, _, _, rfl, l0, rfl⟩) ?_ ?_
  · rintro T0 l0 done x todo hx _ T1 _ f1 _ ⟨a1, a2, a3, a4, rfl, l1, hi⟩ vx T2 l2 _ hvx
    refine g_n 2 ?_
    have l3 := l1.trans l2
    have e := Is.int (K := K) hvx
    subst e
    show wSs _ _ _ [some v1, some v2, some (.int x), a2, a3, a4] T2.H
    have hdr : (srt (keysF (ways (risesS st) n n))).drop done.length = x :: todo := by
      rw [hx]
      simp
    rw [hdr, List.findSome?_cons] at hi
    refine s_setLcE (m := m0) (i := ()) 3 [("least", 4), ("change", 5)] (xs := risesS st) (enc := enc2) (fun r => decide (r.1 ≤ x) && decide (0 < r.2)) (fun r => .int r.2) (ei_lstE (e_callD C2 (ea_cons (e_v 0 (h1.le l3)) ea_nil) ⟨st, rfl, ok.l, rfl⟩)) (by simp [risesS]; have := ok.l; omega) ?_ True.intro ?_
    · rintro T3 l4 ⟨le, ch⟩ hr2 v T4 hf _ hv
      obtain ⟨t1, w1, w2, rfl, ht1, hw1, hw2⟩ := dp2 hv
      exact ⟨_, fun Q hQ => g_tup rfl (sqT_sub T4 ht1) (gs_cons (g_n 4 (gs_cons (g_n 5 (gs_nil hQ))))) rfl, rfl, ets_one (et_w (ew_and (EC.tst (c_ge (e_v 2 (hvx.fl hf)) (e_v 4 hw1))) (fun _ => ew_and1 (EC.tst (c_gt (e_v 5 hw2) e_int))))), fun _ => e_v 5 hw2⟩
    · intro q T3 l4 _ hq oq
      rw [← risingAt_mem] at oq
      have l5 := l3.trans l4
      refine s_when (m := m0) (i := ()) (EC.tst (c_neR (rl_v 3 oq hq) (EL.E (el_lst ed_nil)) (shaped_ints _) rfl)) True.intro (fun hu T4 l6 _ => ?_) (fun hu T4 l6 _ => ?_)
      · rw [eqv_nilL] at hu
        cases hz : risingAt (risesS st) x with
        | nil =>
          rw [hz] at hu
          cases hu
        | cons c cs =>
          rw [hz] at hi oq
          exact s_ret0 (i := ()) (e_tup (ed_cons (e_v 2 (hvx.le (l4.trans l6))) (ed_cons (e_ixR (rl_v 3 (oq.le l6 hq) hq) e_int (at_map (k := 0) (a := c) rfl)) ed_nil))) (l5.trans l6) hD (by rw [hi]; rfl)
      · rw [eqv_nilL] at hu
        have hz : risingAt (risesS st) x = [] := by
          cases hz : risingAt (risesS st) x with
          | nil => rfl
          | cons c cs =>
            rw [hz] at hu
            cases hu
        refine s_nil ⟨T4, (), rfl, f1.trans (l2.fl.trans (l4.fl.trans l6.fl)), True.intro, _, _, _, _, rfl, l5.trans l6, ?_⟩
        rw [hi, hz]
        rw [hx]
        simp
  · rintro T0 l0 _ T1 _ f1 _ ⟨a1, a2, a3, a4, rfl, l1, hi⟩
    rw [List.drop_length] at hi
    exact s_ret0 (i := ()) e_non l1 hD (by rw [hi]; rfl)
def endlessR : List Sv → Sv → Prop := fun xs y => ∃ st n, xs = [.d (oneD st), .d (.int n)] ∧ Ok st n n ∧ y = .d (.bool (risingS (risesS st) n).isSome)
theorem sc_is_endless : FnScope ["net", "n"] ["net", "n"] (defScope s_is_endless) := ⟨rfl, rfl, rfl, by decide, rfl, by decide, by decide⟩
theorem fn_is_endless (hm : Md K mg) : Cl P w K mg base 5 "is_endless" s_is_endless ["net", "n"] (pureSp K endlessR) := by
  have C1 := fn_rising_step (P := P) (w := w) (base := base) hm
  refine .of hm.d_is_endless (fun _ _ _ _ _ _ us hl => match us, hl with | [_, _], _ => rfl) fun f fd F => fnPure F sc_is_endless (by rintro _ _ ⟨_, _, rfl, _⟩; rfl) ?_
  rintro cdv A outer s H hr vs W xs y ha ⟨st, n, rfl, ok, rfl⟩ D hD _
  obtain ⟨v1, v2, rfl, h1, h2⟩ := ha.inv2
  refine s_ret0 (i := ()) (EC.val (c_notN (e_callD C1 (ea_cons (e_v 0 h1) (ea_cons (e_v 1 h2) ea_nil)) ⟨_, _, rfl, ok, rfl⟩))) (Le.refl W) hD ?_
  cases risingS (risesS st) n <;> rfl
def measR : List Sv → Sv → Prop := fun xs y => ∃ st : St1, xs = [.d (oneD st)] ∧ st.length ≤ 1000 ∧ y = .d (.int (measS (risesS st)))
theorem sc_net_measure : FnScope ["net", "found", "least", "change", "one", "other"] ["net"] (defScope s_net_measure) := ⟨rfl, rfl, rfl, by decide, rfl, by decide, by decide⟩
theorem fn_net_measure (hm : Md K mg) : Cl P w K mg base 3 "net_measure" s_net_measure ["net"] (pureSp K measR) := by
  have C2 := fn_rises_of (P := P) (w := w) (base := base) hm
  refine .of hm.d_net_measure (fun _ _ _ _ _ _ us hl => match us, hl with | [_], _ => rfl) fun f fd F => fnPure F sc_net_measure (by rintro _ _ ⟨_, rfl, _⟩; rfl) ?_
  rintro cdv A outer s H hr vs W xs y ha ⟨st, rfl, hl, rfl⟩ D hD _
  obtain ⟨v1, rfl, h1⟩ := ha.inv1
  refine s_st (m := m0) (i := ()) 1 e_int True.intro ?_
  intro vf T1 l1 _ hf
  have e := Is.int hf
  subst e
  refine s_forE (m := m0) (i := ()) (xs := risesS st) (enc := enc2) (fun T0 done σ' T' _ => ∃ (a1 a2 a3 a4 : Option V), σ' = [some v1, some (.int (measS done)), a1, a2, a3, a4] ∧ Le M0 W T') (ei_lstE (e_callD C2 (ea_cons (e_v 0 (h1.le l1)) ea_nil) ⟨st, rfl, hl, rfl⟩)) True.intro (fun T0 l0 _ => ⟨_, _, _, _, rfl, l1.trans l0⟩) ?_ ?_
  · rintro T0 l0 done ⟨le, ch⟩ todo hx _ T2 _ f2 _ ⟨a1, a2, a3, a4, rfl, l2⟩ vx T3 l3 _ hvx
    obtain ⟨t1, w1, w2, rfl, ht1, hw1, hw2⟩ := dp2 hvx
    refine g_tup rfl (sqT_sub T3 ht1) (gs_cons (g_n 2 (gs_cons (g_n 3 (gs_nil ?_))))) rfl
    show wSs _ _ _ [some v1, some (.int (measS done)), some w1, some w2, a3, a4] T3.H
    refine s_par2 (m := m0) (i := ()) (ea_cons (e_v 1 (x := .d (.int (measS done))) (Dp.int _)) (ea_cons (e_abs (bi hm) (e_v 3 hw2)) ea_nil)) True.intro (n1 := 4) (n2 := 5) rfl rfl (by decide) rfl rfl ?_ (xs := [])
    intro u1 u2 T4 l4 _ hu1 hu2
    have e1 := Is.int hu1
    have e2 := Is.int hu2
    subst e1 e2
    refine s_while (m := m0) (i := ()) (fun q σ' T' _ => ∃ one other : Int, σ' = [some v1, some (.int (measS done)), some w1, some w2, some (.int one), some (.int other)] ∧ Le M0 W T' ∧ 0 ≤ one ∧ 0 ≤ other ∧ Int.gcd one other = Int.gcd (measS done) ch ∧ q = other.toNat) _ ⟨_, _, rfl, (l2.trans l3).trans l4, ?_, ?_, ?_, rfl⟩ True.intro ?_
    · unfold measS
      rcases List.eq_nil_or_concat done with rfl | ⟨d0, r0, rfl⟩
      · exact Int.le_refl 0
      · rw [List.concat_eq_append, List.foldl_append]
        exact Int.natCast_nonneg _
    · split <;> omega
    · split
      · exact Int.gcd_neg
      · rfl
    · rintro q _ T5 _ _ f5 ⟨one, other, rfl, l5, p1, p2, p3, rfl⟩
      refine ⟨_, (), EC.tst (c_gt (e_v 5 (x := .d (.int other)) (Dp.int _)) e_int), fun hu T6 l6 _ => ?_, fun hu T6 l6 _ => ?_⟩
      · have hpos : 0 < other := of_decide_eq_true hu
        refine s_par2 (m := m0) (i := ()) (ea_cons (e_v 5 (x := .d (.int other)) (Dp.int _)) (ea_cons (e_mod (e_v 4 (x := .d (.int one)) (Dp.int _)) (e_v 5 (x := .d (.int other)) (Dp.int _)) hpos) ea_nil)) True.intro (n1 := 4) (n2 := 5) rfl rfl (by decide) rfl rfl ?_ (xs := [])
        intro u1 u2 T7 l7 _ hu1 hu2
        have e1 := Is.int hu1
        have e2 := Is.int hu2
        subst e1 e2
        have m1 := Int.emod_nonneg one (show other ≠ 0 by omega)
        have m2 := Int.emod_lt_of_pos one hpos
        refine s_nil ⟨_, T7, (), by omega, rfl, f5.trans (l6.fl.trans l7.fl), True.intro, _, _, rfl, (l5.trans l6).trans l7, p2, m1, ?_, rfl⟩
        rw [← p3, Int.gcd_comm one other, Int.emod_def, Int.gcd_sub_mul_left_right]
      · have hz : other = 0 := by
          have := of_decide_eq_false hu
          omega
        subst hz
        refine s_st (m := m0) (i := ()) 1 (e_v 4 (x := .d (.int one)) (Dp.int _)) True.intro ?_
        intro u1 T7 l7 _ hu1
        have e1 := Is.int hu1
        subst e1
        have e : measS (done ++ [(le, ch)]) = one := by
          have : measS (done ++ [(le, ch)]) = ((Int.gcd (measS done) ch : Nat) : Int) := by
            unfold measS
            rw [List.foldl_append] <;> rfl
          rw [this, ← p3]
          simp [Int.gcd_zero]
          omega
        refine s_nil ⟨T7, (), rfl, f2.trans (l3.fl.trans (l4.fl.trans (f5.trans (l6.fl.trans l7.fl)))), True.intro, some w1, some w2, some (.int one), some (.int 0), ?_, (l5.trans l6).trans l7⟩
        rw [e]
        rfl
  · rintro T0 l0 _ T2 _ f2 _ ⟨a1, a2, a3, a4, rfl, l2⟩
    exact s_ret0 (i := ()) (e_v 1 (x := .d (.int (measS (risesS st)))) (Dp.int _)) l2 hD
end
end K38
set_option Elab.async false
set_option linter.all false
set_option maxRecDepth 100000
set_option maxHeartbeats 4000000
namespace Oc
open PySem PySem.Spec PyProof.Rows L2 Pv
abbrev Shape := List Int × Int × Int
def encS (s : Shape) : PD := .tuple [rowD s.1, .int s.2.1, .int s.2.2]
def encOS : Option Shape → PD
  | none => .none
  | some s => encS s
def fullGo (kn : List Int) (g : Int) : Nat → Int → Int
  | 0, low => low
  | q + 1, low => if (decide (0 ≤ low - g) && kn.contains (low - g)) = true then fullGo kn g q (low - g) else low
def fullS (kn : List Int) (n g most : Int) : Int := fullGo kn g ((most - (most - n) % g).toNat + 1) (most - (most - n) % g)
def shapeUp (rs : List (Int × Int)) (n : Int) (r : Int × Int) (most : Int) : Option Shape :=
  let low := fullS (comeS rs n most) n (measS rs) most
  if (!(comeS rs n most).contains low || decide (most - mx2 low r.1 < r.2)) = true then none
  else some ((comeS rs n most).filter fun x => decide (x < low), low, measS rs)
def shapeGo (rs : List (Int × Int)) (n : Int) (r : Int × Int) : Nat → Int → Option Shape
  | 0, _ => none
  | q + 1, most => match shapeUp rs n r most with
    | some s => some s
    | none => shapeGo rs n r q (2 * most)
/-- what come_shape tells -/
inductive ShapeIs (rs : List (Int × Int)) (n : Int) : Shape → Prop
  | flat : risingS rs n = none → ShapeIs rs n (comeS rs n n, 0, 0)
  | rise {r : Int × Int} {s : Shape} {q : Nat} : risingS rs n = some r → 0 < r.2 → 0 ≤ n → 0 < measS rs → shapeGo rs n r (q + 1) (2 * (n + r.2)) = some s → 2 ^ q * (2 * (n + r.2)) < 40000 → ShapeIs rs n s
def inS (s : Shape) (x : Int) : Bool := s.1.contains x || (decide (0 < s.2.2) && (decide (s.2.1 ≤ x) && decide ((x - s.2.1) % s.2.2 = 0)))
def gapsS (s : Shape) (n : Int) : Option (List Int) := if s.2.2 = 0 then none else some ((rgI 0 s.2.1.toNat).filter fun x => decide ((x - n) % s.2.2 = 0) && !s.1.contains x)
def encR : Option (List Int) → PD
  | none => .none
  | some l => rowD l
def lookF (f : Fo) (y : Int) : Option (Option (Int × Nat)) := (f.find? fun p => p.1 == y).map (·.2)
theorem valD_look (f : Fo) (y : Int) : valD (encF f) (.inl y) = (lookF f y).map encO := by
  induction f with
  | nil => rfl
  | cons p f ih =>
    by_cases h : p.1 = y
    · simp [valD, encF, lookF, h]
    · have h' : ¬ ((Sum.inl p.1 : Key) = Sum.inl y) := fun z => h (Sum.inl.inj z)
      have h2 : (p.1 == y) = false := by simp [h]
      simp only [valD, encF, lookF, List.map_cons, List.find?_cons, h2, h', decide_false] at ih ⊢
      exact ih
theorem look_has (f : Fo) (y : Int) : has f y = (lookF f y).isSome := by
  rw [← valD_encF, valD_look]
  cases lookF f y <;> rfl
/-- back along what was found -/
def traceS (f : Fo) : Nat → Int → Option (List Nat)
  | 0, _ => none
  | q + 1, y => match lookF f y with
    | none => none
    | some none => some []
    | some (some (x, k)) => (traceS f q x).map (k :: ·)
def ksD (ks : List Nat) : List PD := ks.map fun (k : Nat) => .int (k : Int)
def wordSv : Option (List Nat) → Sv
  | none => .d .none
  | some ks => .pt (ksD ks)
def lenD : Option (List Nat) → PD
  | none => .none
  | some ks => .int (ks.length : Int)
/-- the word that is found -/
inductive WordIs (rs : List (Int × Int)) (n y : Int) : Option (List Nat) → Prop
  | no : has (ways rs n (topS n y)) y = false → WordIs rs n y none
  | yes {ks : List Nat} {q : Nat} : traceS (ways rs n (topS n y)) q y = some ks → q ≤ 90000 → WordIs rs n y (some ks.reverse)
def faultS (rs : List (Int × Int)) (y : Int) : List Nat → Nat → Int → PD
  | [], _, x => if x ≠ y then .tuple [.str "number", .int x] else .none
  | k :: ks, p, x => match rs[k]? with
    | none => .none
    | some r => if x < r.1 then .tuple [.str "step", .int (p : Int)] else faultS rs y ks (p + 1) (x + r.2)
def isShapeS (s : Shape) : Bool :=
  decide (s.1.length ≤ 500) && s.1.all (fun x => decide (0 ≤ x) && decide (x ≤ 1000000000)) && ((s.1.zip (s.1.drop 1)).all fun p => decide (p.1 < p.2)) && (decide (0 ≤ s.2.1) && decide (s.2.1 ≤ 1000000000)) && (decide (0 ≤ s.2.2) && decide (s.2.2 ≤ 9))
def someS (s : Shape) : List Int := s.1 ++ (if 0 < s.2.2 then (rgI 0 530).map fun t => s.2.1 + t * s.2.2 else [])
def closedS (rs : List (Int × Int)) (s : Shape) : Prop := ∀ x ∈ someS s, ∀ r ∈ rs, r.1 ≤ x → inS s (x + r.2) = true
end Oc
set_option Elab.async false
set_option linter.all false
set_option maxRecDepth 100000
set_option maxHeartbeats 4000000
namespace K38
open PySem PySem.Spec PyProof.Rows L2 Pv Oc
section
variable {P : Program} {w : World} {K : PySem.W.Frag} {mg : Str → Option Value} {base : Heap}
theorem valD_map {ns : List Int} {g : Int → PD} {x : Int} : (valD (ns.map fun n => ((.inl n : Key), g n)) (.inl x)).isSome = ns.contains x := by
  induction ns with
  | nil => rfl
  | cons a ns ih =>
    by_cases h : a = x
    · subst h
      simp [valD]
    · have h' : ¬ ((Sum.inl a : Key) = Sum.inl x) := fun z => h (Sum.inl.inj z)
      have h2 : (x == a) = false := beq_eq_false_iff_ne.mpr fun z => h z.symm
      rw [List.contains_cons, h2, Bool.false_or, ← ih]
      simp [valD, h']
def fullR : List Sv → Sv → Prop := fun xs y => ∃ (kn : List Int) (n g most : Int), xs = [.dk (kn.map fun x => (.inl x, .bool true)), .d (.int n), .d (.int g), .d (.int most)] ∧ 0 < g ∧ y = .d (.int (fullS kn n g most))
theorem sc_full_from : FnScope ["known", "n", "g", "most", "low"] ["known", "n", "g", "most"] (defScope s_full_from) := ⟨rfl, rfl, rfl, by decide, rfl, by decide, by decide⟩
theorem inv4 {K : PySem.W.Frag} {F : Hp} {vs : List V} {x y z t : Sv} (h : AllIs K F vs [x, y, z, t]) : ∃ v w u r, vs = [v, w, u, r] ∧ Is K F v x ∧ Is K F w y ∧ Is K F u z ∧ Is K F r t := by
  cases h with
  | cons a b =>
    obtain ⟨w, u, r, e, q1, q2, q3⟩ := AllIs.inv3 b
    subst e
    exact ⟨_, _, _, _, rfl, a, q1, q2, q3⟩
theorem fn_full_from (hm : Md K mg) : Cl P w K mg base 1 "full_from" s_full_from ["known", "n", "g", "most"] (pureSp K fullR) := by
  refine .of hm.d_full_from (fun _ _ _ _ _ _ us hl => match us, hl with | [_, _, _, _], _ => rfl) fun f fd F => fnPure F sc_full_from (by rintro _ _ ⟨_, _, _, _, rfl, _⟩; rfl) ?_
  rintro cdv A outer s H hr vs W xs y ha ⟨kn, n, g, most, rfl, hg, rfl⟩ D hD _
  obtain ⟨v1, v2, v3, v4, rfl, h1, h2, h3, h4⟩ := inv4 ha
  refine s_st (m := m0) (i := ()) 4 (e_sub (e_v 3 h4) (e_mod (e_sub (e_v 3 h4) (e_v 1 h2)) (e_v 2 h3) hg)) True.intro ?_
  intro u T1 l1 _ hu
  have e := Is.int hu
  subst e
  refine s_while (m := m0) (i := ()) (fun q σ' T' _ => ∃ low : Int, σ' = [some v1, some v2, some v3, some v4, some (.int low)] ∧ Le M0 W T' ∧ low.toNat < q ∧ fullGo kn g q low = fullS kn n g most) ((most - (most - n) % g).toNat + 1) ⟨_, rfl, l1, Nat.lt_succ_self _, rfl⟩ True.intro ?_
  rintro q _ T2 _ _ f2 ⟨low, rfl, l2, p1, p2⟩
  have hlow : Is K T2.F (V.int low) (.d (.int low)) := Dp.int _
  obtain ⟨q', rfl⟩ : ∃ q', q = q' + 1 := ⟨q - 1, by omega⟩
  refine ⟨_, (), et_w (ew_and (EC.tst (c_ge (e_sub (e_v 4 hlow) (e_v 2 (h3.le l2))) e_int)) (fun _ => ew_and1 (EC.tst (c_din (e_sub (e_v 4 hlow) (e_v 2 (h3.le l2))) (E.rd (e_v 0 (h1.le l2))))))), fun hu T3 l3 _ => ?_, fun hu T3 l3 _ => ?_⟩
  · rw [valD_map] at hu
    have hp : 0 ≤ low - g := by
      rw [Bool.and_eq_true] at hu
      exact of_decide_eq_true hu.1
    refine s_st (m := m0) (i := ()) 4 (e_sub (e_v 4 (hlow.le l3)) (e_v 2 ((h3.le l2).le l3))) True.intro ?_
    intro u T4 l4 _ hu2
    have e := Is.int hu2
    subst e
    refine s_nil ⟨q', T4, (), Nat.lt_succ_self _, rfl, f2.trans (l3.fl.trans l4.fl), True.intro, _, rfl, (l2.trans l3).trans l4, by omega, ?_⟩
    have e : fullGo kn g (q' + 1) low = fullGo kn g q' (low - g) := by
      rw [fullGo, if_pos hu]
    rw [← p2, e]
  · rw [valD_map] at hu
    refine s_ret0 (i := ()) (e_v 4 (hlow.le l3)) (l2.trans l3) hD ?_
    rw [← p2]
    unfold fullGo
    rw [if_neg (by rw [hu]; exact Bool.false_ne_true)]
def shapeUpR : List Sv → Sv → Prop := fun xs y => ∃ st n r most, xs = [.d (oneD st), .d (.int n), .d (enc2 r), .d (.int most)] ∧ Ok st n most ∧ 0 < measS (risesS st) ∧ y = .d (encOS (shapeUp (risesS st) n r most))
theorem sc_shape_up_to : FnScope ["net", "n", "rising", "most", "numbers", "g", "known", "low", "x"] ["net", "n", "rising", "most"] (defScope s_shape_up_to) := ⟨rfl, rfl, rfl, by decide, rfl, by decide, by decide⟩
theorem comeS_nodup {rs : List (Int × Int)} {n most : Int} (hr : Rs rs) : (comeS rs n most).Nodup := by
  unfold comeS
  exact List.Pairwise.filter _ ((srt_perm _).nodup_iff.mpr (ways_good hr).nd)
theorem comeS_len {rs : List (Int × Int)} {n most : Int} (hr : Rs rs) (h1 : n < 40000) (h2 : most < 40000) : (comeS rs n most).length ≤ 50002 := by
  unfold comeS
  refine Nat.le_trans (List.length_filter_le _ _) ?_
  rw [srt_len]
  have := ways_len (n := n) hr (topS_lt h1 h2)
  simpa [keysF] using this
theorem fn_shape_up_to (hm : Md K mg) : Cl P w K mg base 5 "shape_up_to" s_shape_up_to ["net", "n", "rising", "most"] (pureSp K shapeUpR) := by
  have C1 := fn_come_numbers (P := P) (w := w) (base := base) hm
  have C2 := fn_net_measure (P := P) (w := w) (base := base) hm
  have C3 := fn_full_from (P := P) (w := w) (base := base) hm
  refine .of hm.d_shape_up_to (fun _ _ _ _ _ _ us hl => match us, hl with | [_, _, _, _], _ => rfl) fun f fd F => fnPure F sc_shape_up_to (by rintro _ _ ⟨_, _, _, _, rfl, _⟩; rfl) ?_
  rintro cdv A outer s H hr vs W xs y ha ⟨st, n, r, most, rfl, ok, hg, rfl⟩ D hD _
  obtain ⟨v1, v2, v3, v4, rfl, h1, h2, h3, h4⟩ := inv4 ha
  refine s_par2 (m := m0) (i := ()) (ea_cons (e_callD C1 (ea_cons (e_v 0 h1) (ea_cons (e_v 1 h2) (ea_cons (e_v 3 h4) ea_nil))) ⟨_, _, _, rfl, ok, rfl⟩) (ea_cons (e_callD C2 (ea_cons (e_v 0 h1) ea_nil) ⟨_, rfl, ok.l, rfl⟩) ea_nil)) True.intro (n1 := 4) (n2 := 5) rfl rfl (by decide) rfl rfl ?_ (xs := [])
  intro u1 u2 T1 l1 _ hu1 hu2
  have e := Is.int hu2
  subst e
  refine s_st (m := m0) (i := ()) 6 (ED.E (ed_dict (ns := comeS (risesS st) n most) (g := fun _ => .bool true) (bi hm) (EL.rl (el_lcM [("x", 8)] (fun x : Int => .tuple [.int x, .bool true]) (ei_tupE (e_v 4 hu1)) ?_ ?_)) (comeS_nodup ok.r))) True.intro ?_
  · have := comeS_len (n := n) ok.r ok.n ok.y
    omega
  · rintro T0 l0 x hx v T hf r hv
    exact ⟨_, fun Q hQ => g_n 8 hQ, rfl, e_tup (ed_cons (e_v 8 hv) (ed_cons e_bl ed_nil))⟩
  intro u3 T2 l2 _ hu3
  refine s_st (m := m0) (i := ()) 7 (e_callD C3 (ea_cons (e_v 6 hu3) (ea_cons (e_v 1 (h2.le (l1.trans l2))) (ea_cons (e_v 5 (hu2.le l2)) (ea_cons (e_v 3 (h4.le (l1.trans l2))) ea_nil)))) ⟨_, _, _, _, rfl, hg, rfl⟩) True.intro ?_
  intro u4 T3 l3 _ hu4
  have e := Is.int hu4
  subst e
  have l13 := l1.trans (l2.trans l3)
  have h3' : Is K T3.F v3 (.d (.tuple [.int r.1, .int r.2])) := h3.le l13
  refine s_when (m := m0) (i := ()) (et_w (ew_or (EC.tst (c_dnotin (e_v 7 hu4) (E.rd (e_v 6 (hu3.le l3))))) (fun _ => ew_or1 (EC.tst (c_lt (e_sub (e_v 3 (h4.le l13)) (e_max2 (bi hm) (e_v 7 hu4) (e_ixt (e_v 2 h3') e_int rfl))) (e_ixt (e_v 2 h3') e_int rfl)))))) True.intro (fun hu T4 l4 _ => ?_) (fun hu T4 l4 _ => ?_)
  · rw [valD_map] at hu
    refine s_ret0 (i := ()) e_non (l13.trans l4) hD ?_
    have e : shapeUp (risesS st) n r most = none := if_pos hu
    rw [e]
    rfl
  · rw [valD_map] at hu
    refine s_ret0 (i := ()) (e_tup (ed_cons (e_tupL (bi hm) (EL.E (el_lcE [("x", 8)] (fun x : Int => decide (x < fullS (comeS (risesS st) n most) n (measS (risesS st)) most)) .int (ei_tupE (e_v 4 (hu1.le ((l2.trans l3).trans l4)))) ?_ ?_))) (ed_cons (e_v 7 (hu4.le l4)) (ed_cons (e_v 5 (hu2.le ((l2.trans l3).trans l4))) ed_nil)))) (l13.trans l4) hD ?_
    · have := comeS_len (n := n) ok.r ok.n ok.y
      omega
    · rintro T0 l0 x hx v T hf r hv
      exact ⟨_, fun Q hQ => g_n 8 hQ, rfl, ets_one (EC.tst (c_lt (e_v 8 hv) (e_v 7 ((hu4.le l4).fl hf)))), fun _ => e_v 8 hv⟩
    · have e : shapeUp (risesS st) n r most = some _ := if_neg fun z => Bool.noConfusion (Eq.trans (Eq.symm z) hu)
      rw [e]
      rfl
end
end K38
set_option Elab.async false
set_option linter.all false
set_option maxRecDepth 100000
set_option maxHeartbeats 4000000
namespace K38
open PySem PySem.Spec PyProof.Rows L2 Pv Oc
section
variable {P : Program} {w : World} {K : PySem.W.Frag} {mg : Str → Option Value} {base : Heap}
def shapeR : List Sv → Sv → Prop := fun xs y => ∃ st n s, xs = [.d (oneD st), .d (.int n)] ∧ Ok st n n ∧ ShapeIs (risesS st) n s ∧ y = .d (encS s)
theorem sc_come_shape : FnScope ["net", "n", "rising", "most", "found"] ["net", "n"] (defScope s_come_shape) := ⟨rfl, rfl, rfl, by decide, rfl, by decide, by decide⟩
theorem fn_come_shape (hm : Md K mg) : Cl P w K mg base 6 "come_shape" s_come_shape ["net", "n"] (pureSp K shapeR) := by
  have C1 := fn_come_numbers (P := P) (w := w) (base := base) hm
  have C2 := fn_rising_step (P := P) (w := w) (base := base) hm
  have C3 := fn_shape_up_to (P := P) (w := w) (base := base) hm
  refine .of hm.d_come_shape (fun _ _ _ _ _ _ us hl => match us, hl with | [_, _], _ => rfl) fun f fd F => fnPure F sc_come_shape (by rintro _ _ ⟨_, _, _, rfl, _⟩; rfl) ?_
  rintro cdv A outer s H hr vs W xs y ha ⟨st, n, sh, rfl, ok, hs, rfl⟩ D hD _
  obtain ⟨v1, v2, rfl, h1, h2⟩ := ha.inv2
  refine s_st (m := m0) (i := ()) 2 (e_callD C2 (ea_cons (e_v 0 h1) (ea_cons (e_v 1 h2) ea_nil)) ⟨_, _, rfl, ok, rfl⟩) True.intro ?_
  intro v3 T1 l1 _ h3
  cases hs with
  | flat hz =>
    rw [hz] at h3
    refine s_when (m := m0) (i := ()) (u := true) (EC.tst (EC.eq (c_isN (e_v 2 h3)) rfl)) True.intro (fun _ T2 l2 _ => ?_) (fun z => nomatch z)
    exact s_ret0 (i := ()) (e_tup (ed_cons (e_callD C1 (ea_cons (e_v 0 (h1.le (l1.trans l2))) (ea_cons (e_v 1 (h2.le (l1.trans l2))) (ea_cons (e_v 1 (h2.le (l1.trans l2))) ea_nil))) ⟨_, _, _, rfl, ok, rfl⟩) (ed_cons e_int (ed_cons e_int ed_nil)))) (l1.trans l2) hD
  | @rise r _ q hz hr2 hn hg hgo hb =>
    rw [hz] at h3
    refine s_when (m := m0) (i := ()) (u := false) (EC.tst (EC.eq (c_isN (e_v 2 h3)) rfl)) True.intro (fun z => nomatch z) (fun _ T2 l2 _ => ?_)
    have h3' : Is K T2.F v3 (.d (.tuple [.int r.1, .int r.2])) := h3.le l2
    refine s_par2 (m := m0) (i := ()) (ea_cons (e_mul e_int (e_add (e_v 1 (h2.le (l1.trans l2))) (e_ixt (e_v 2 h3') e_int rfl)) (.inl ⟨by decide, by decide⟩)) (ea_cons e_non ea_nil)) True.intro (n1 := 3) (n2 := 4) rfl rfl (by decide) rfl rfl ?_ (xs := [])
    intro u1 u2 T3 l3 _ hu1 hu2
    have e1 := Is.int hu1
    subst e1
    refine s_while (m := m0) (i := ()) (fun b σ' T' _ => ∃ (most : Int) (fo : Option Oc.Shape) (vf : V), σ' = [some v1, some v2, some v3, some (.int most), some vf] ∧ Le M0 W T' ∧ Is K T'.F vf (.d (encOS fo)) ∧
      match fo with
      | some s' => s' = sh
      | none => ∃ q', b = q' + 1 ∧ shapeGo (risesS st) n r (q' + 1) most = some sh ∧ 0 ≤ most ∧ 2 ^ q' * most < 40000) (q + 1) ⟨_, none, _, rfl, (l1.trans l2).trans l3, hu2, q, rfl, hgo, by omega, hb⟩ True.intro ?_
    rintro b _ T4 _ _ f4 ⟨most, fo, vf, rfl, l4, hvf, hfo⟩
    cases fo with
    | some s' =>
      subst hfo
      refine ⟨false, (), EC.tst (EC.eq (c_isN (e_v 4 hvf)) rfl), (fun z => nomatch z), fun _ T5 l5 _ => ?_⟩
      exact s_ret0 (i := ()) (e_v 4 (hvf.le l5)) (l4.trans l5) hD
    | none =>
      obtain ⟨q', rfl, hgo', h0, hb'⟩ := hfo
      refine ⟨true, (), EC.tst (EC.eq (c_isN (e_v 4 hvf)) rfl), (fun _ T5 l5 _ => ?_), fun z => nomatch z⟩
      have l45 := l4.trans l5
      have hmost : Is K T5.F (V.int most) (.d (.int most)) := Dp.int _
      have h1p : (1 : Int) ≤ 2 ^ q' := by
        have h : (0 : Int) < 2 ^ q' := Int.pow_pos (by decide)
        omega
      have hm4 : most < 40000 := by
        have : 1 * most ≤ 2 ^ q' * most := Int.mul_le_mul_of_nonneg_right h1p h0
        omega
      refine s_par2 (m := m0) (i := ()) (ea_cons (e_callD C3 (ea_cons (e_v 0 (h1.le l45)) (ea_cons (e_v 1 (h2.le l45)) (ea_cons (e_v 2 (h3'.fl ((l3.fl.trans f4).trans l5.fl))) (ea_cons (e_v 3 hmost) ea_nil)))) ⟨st, n, r, most, rfl, ⟨ok.l, ok.r, ok.n, hm4⟩, hg, rfl⟩) (ea_cons (e_mul e_int (e_v 3 hmost) (.inl ⟨by decide, by decide⟩)) ea_nil)) True.intro (n1 := 4) (n2 := 3) rfl rfl (by decide) rfl rfl ?_ (xs := [])
      intro w1 w2 T6 l6 _ hw1 hw2
      have e1 := Is.int hw2
      subst e1
      unfold shapeGo at hgo'
      refine s_nil ⟨q', T6, (), Nat.lt_succ_self _, rfl, f4.trans (l5.fl.trans l6.fl), True.intro, _, _, _, rfl, l45.trans l6, hw1, ?_⟩
      cases hsu : shapeUp (risesS st) n r most with
      | some s' =>
        rw [hsu] at hgo'
        exact Option.some.inj hgo'
      | none =>
        rw [hsu] at hgo'
        cases q' with
        | zero => cases hgo'
        | succ q2 =>
          refine ⟨q2, rfl, hgo', by omega, ?_⟩
          have e : (2 : Int) ^ (q2 + 1) * most = 2 ^ q2 * (2 * most) := by
            rw [Int.pow_succ, Int.mul_assoc]
          omega
def inSR : List Sv → Sv → Prop := fun xs y => ∃ s x, xs = [.d (encS s), .d (.int x)] ∧ y = .d (.bool (inS s x))
theorem sc_is_in_shape : FnScope ["shape", "x", "numbers", "low", "g"] ["shape", "x"] (defScope s_is_in_shape) := ⟨rfl, rfl, rfl, by decide, rfl, by decide, by decide⟩
theorem fn_is_in_shape (hm : Md K mg) : Cl P w K mg base 1 "is_in_shape" s_is_in_shape ["shape", "x"] (pureSp K inSR) := by
  refine .of hm.d_is_in_shape (fun _ _ _ _ _ _ us hl => match us, hl with | [_, _], _ => rfl) fun f fd F => fnPure F sc_is_in_shape (by rintro _ _ ⟨_, _, rfl, _⟩; rfl) ?_
  rintro cdv A outer s H hr vs W xs y ha ⟨sh, x, rfl, rfl⟩ D hD _
  obtain ⟨v1, v2, rfl, h1, h2⟩ := ha.inv2
  refine s_asg (m := m0) (i := ()) (e_v 0 h1) True.intro ?_
  intro v T1 l1 _ hv
  obtain ⟨t1, w1, w2, w3, rfl, ht1, hw1, hw2, hw3⟩ := dp3 hv
  refine g_tup rfl (sqT_sub T1 ht1) (gs_cons (g_n 2 (gs_cons (g_n 3 (gs_cons (g_n 4 (gs_nil ?_))))))) rfl
  refine s_ret0 (i := ()) (e_or (EC.val (c_inT (e_v 1 (h2.le l1)) (e_v 2 hw1))) (fun _ => e_one (e_and (EC.val (c_gt (e_v 4 hw3) e_int)) (fun hu => e_and (EC.val (c_ge (e_v 1 (h2.le l1)) (e_v 3 hw2))) (fun _ => e_one (EC.val (c_eqi (e_mod (e_sub (e_v 1 (h2.le l1)) (e_v 3 hw2)) (e_v 4 hw3) (of_decide_eq_true hu)) e_int))))))) l1 hD
def gapsR : List Sv → Sv → Prop := fun xs y => ∃ st n s, xs = [.d (oneD st), .d (.int n)] ∧ Ok st n n ∧ ShapeIs (risesS st) n s ∧ 0 ≤ s.2.2 ∧ 0 ≤ s.2.1 ∧ s.2.1 < 100000 ∧ y = .d (encR (gapsS s n))
theorem sc_come_gaps : FnScope ["net", "n", "numbers", "low", "g", "x"] ["net", "n"] (defScope s_come_gaps) := ⟨rfl, rfl, rfl, by decide, rfl, by decide, by decide⟩
theorem fn_come_gaps (hm : Md K mg) : Cl P w K mg base 7 "come_gaps" s_come_gaps ["net", "n"] (pureSp K gapsR) := by
  have C1 := fn_come_shape (P := P) (w := w) (base := base) hm
  refine .of hm.d_come_gaps (fun _ _ _ _ _ _ us hl => match us, hl with | [_, _], _ => rfl) fun f fd F => fnPure F sc_come_gaps (by rintro _ _ ⟨_, _, _, rfl, _⟩; rfl) ?_
  rintro cdv A outer s H hr vs W xs y ha ⟨st, n, sh, rfl, ok, hs, hg, hlow0, hlow, rfl⟩ D hD _
  obtain ⟨v1, v2, rfl, h1, h2⟩ := ha.inv2
  refine s_asg (m := m0) (i := ()) (e_callD C1 (ea_cons (e_v 0 h1) (ea_cons (e_v 1 h2) ea_nil)) ⟨_, _, _, rfl, ok, hs, rfl⟩) True.intro ?_
  intro v T1 l1 _ hv
  obtain ⟨t1, w1, w2, w3, rfl, ht1, hw1, hw2, hw3⟩ := dp3 hv
  refine g_tup rfl (sqT_sub T1 ht1) (gs_cons (g_n 2 (gs_cons (g_n 3 (gs_cons (g_n 4 (gs_nil ?_))))))) rfl
  refine s_when (m := m0) (i := ()) (EC.tst (c_eqi (e_v 4 hw3) e_int)) True.intro (fun hu T2 l2 _ => ?_) (fun hu T2 l2 _ => ?_)
  · refine s_ret0 (i := ()) e_non (l1.trans l2) hD ?_
    have : sh.2.2 = 0 := of_decide_eq_true hu
    unfold gapsS
    rw [if_pos this]
    rfl
  · have hne : ¬ sh.2.2 = 0 := of_decide_eq_false hu
    refine s_ret0 (i := ()) (e_tupL (bi hm) (EL.E (el_lcE [("x", 5)] (fun x : Int => decide ((x - n) % sh.2.2 = 0) && !sh.1.contains x) .int (ei_rg1E (bi hm) (e_v 3 (hw2.le l2)) ?_) ?_ ?_))) (l1.trans l2) hD ?_
    · omega
    · rw [rgI_len]
      omega
    · rintro T0 l0 x hx v T hf r hv
      exact ⟨_, fun Q hQ => g_n 5 hQ, rfl, ets_one (et_w (ew_and (EC.tst (c_eqi (e_mod (e_sub (e_v 5 hv) (e_v 1 ((h2.le (l1.trans l2)).fl hf))) (e_v 4 ((hw3.le l2).fl hf)) (by omega)) e_int)) (fun _ => ew_and1 (EC.tst (c_notinT (e_v 5 hv) (e_v 2 ((hw1.le l2).fl hf))))))), fun _ => e_v 5 hv⟩
    · unfold gapsS
      rw [if_neg hne]
      rfl
end
end K38
set_option Elab.async false
set_option linter.all false
set_option maxRecDepth 100000
set_option maxHeartbeats 4000000
namespace K38
open PySem PySem.Spec PyProof.Rows L2 Pv Oc
section
variable {P : Program} {w : World} {K : PySem.W.Frag} {mg : Str → Option Value} {base : Heap}
def wayR : List Sv → Sv → Prop := fun xs y => ∃ st n z o, xs = [.d (oneD st), .d (.int n), .d (.int z)] ∧ Ok st n z ∧ WordIs (risesS st) n z o ∧ y = wordSv o
theorem sc_way_or_none : FnScope ["net", "n", "y", "ahead", "found", "k"] ["net", "n", "y"] (defScope s_way_or_none) := ⟨rfl, rfl, rfl, by decide, rfl, by decide, by decide⟩
theorem ksD_app (a b : List Nat) : ksD (a ++ b) = ksD a ++ ksD b := by simp [ksD]
theorem ksD_rev (a : List Nat) : ksD a.reverse = (ksD a).reverse := by simp [ksD]
theorem fn_way_or_none (hm : Md K mg) : Cl P w K mg base 4 "way_or_none" s_way_or_none ["net", "n", "y"] (pureSp K wayR) := by
  have C1 := fn_ways_within (P := P) (w := w) (base := base) hm
  have C2 := fn_top_for (P := P) (w := w) (base := base) hm
  refine .of hm.d_way_or_none (fun _ _ _ _ _ _ us hl => match us, hl with | [_, _, _], _ => rfl) fun f fd F => fnPure F sc_way_or_none (by rintro _ _ ⟨_, _, _, _, rfl, _⟩; rfl) ?_
  rintro cdv A outer s H hr vs W xs y ha ⟨st, n, z, o, rfl, ok, hw, rfl⟩ D hD _
  obtain ⟨v1, v2, v3, rfl, h1, h2, h3⟩ := ha.inv3
  have ht := topS_lt ok.n ok.y
  refine s_st (m := m0) (i := ()) 3 (e_callD C1 (ea_cons (e_v 0 h1) (ea_cons (e_v 1 h2) (ea_cons (e_callD C2 (ea_cons (e_v 1 h2) (ea_cons (e_v 2 h3) ea_nil)) ⟨_, _, rfl, rfl⟩) ea_nil))) ⟨_, _, _, rfl, ok.l, ok.r, ht, rfl⟩) True.intro ?_
  intro v4 T1 l1 _ h4
  refine s_when (m := m0) (i := ()) (EC.tst (c_dnotin (e_v 2 (h3.le l1)) (E.rd (e_v 3 h4)))) True.intro (fun hu T2 l2 _ => ?_) (fun hu T2 l2 _ => ?_)
  · rw [valD_encF] at hu
    cases hw with
    | no hn => exact s_ret0 (i := ()) e_non (l1.trans l2) hD
    | @yes ks q hq hb =>
      exfalso
      cases q with
      | zero => cases hq
      | succ q =>
        rw [look_has] at hu
        unfold traceS at hq
        cases hl : lookF (ways (risesS st) n (topS n z)) z with
        | none =>
          rw [hl] at hq
          cases hq
        | some _ =>
          rw [hl] at hu
          cases hu
  · rw [valD_encF] at hu
    cases hw with
    | no hn =>
      rw [hn] at hu
      cases hu
    | @yes ks q hq hb =>
      refine s_stG (m := m0) (i := ()) 4 (el_lst ed_nil) True.intro ?_
      rintro _ T3 l3 _ ⟨qf, us, rfl, u1, u2, u3, u4⟩
      have oL : OwnL K T3 qf (ksD []) := ⟨u2, us, u3, u4⟩
      have hq0 : W.H qf = none := (l1.trans l2).back u1
      have l13 := (l1.trans l2).trans l3
      refine s_while (m := m0) (i := ()) (fun b σ' T' _ => ∃ (c : Int) (done todo : List Nat) (vk : Option V), σ' = [some v1, some v2, some (.int c), some v4, some (.ref qf), vk] ∧ Le M0 W T' ∧ OwnL K T' qf (ksD done) ∧ traceS (ways (risesS st) n (topS n z)) b c = some todo ∧ done ++ todo = ks ∧ b + done.length = q) q ⟨z, [], ks, none, by rw [Is.int h3]; rfl, l13, oL, hq, rfl, rfl⟩ True.intro ?_
      rintro b _ T4 _ _ f4 ⟨c, done, todo, vk, rfl, l4, oL4, htr, hk, hbq⟩
      have h4' : Is K T4.F v4 (.dk (encF (ways (risesS st) n (topS n z)))) := h4.fl (l2.fl.trans (l3.fl.trans f4))
      have hc : Is K T4.F (V.int c) (.d (.int c)) := Dp.int _
      cases b with
      | zero => cases htr
      | succ b =>
        unfold traceS at htr
        cases hl : lookF (ways (risesS st) n (topS n z)) c with
        | none =>
          rw [hl] at htr
          cases htr
        | some pr =>
          rw [hl] at htr
          have hv : valD (encF (ways (risesS st) n (topS n z))) (.inl c) = some (encO pr) := by
            rw [valD_look, hl]
            rfl
          cases pr with
          | none =>
            cases htr
            refine ⟨false, (), EC.tst (EC.eq (c_notN (e_dget (E.rd (e_v 3 h4')) (e_v 2 hc) hv)) rfl), (fun z => nomatch z), fun _ T5 l5 _ => ?_⟩
            rw [List.append_nil] at hk
            subst hk
            exact s_ret0 (i := ()) (e_tupP (bi hm) (EL.rl (el_rev (rl_v 4 (oL4.le l5 (fun z => z)) (fun z => z))))) (l4.trans l5) hD (by rw [wordSv, ksD_rev])
          | some p =>
            obtain ⟨px, pk⟩ := p
            refine ⟨true, (), EC.tst (EC.eq (c_notN (e_dget (E.rd (e_v 3 h4')) (e_v 2 hc) hv)) rfl), (fun _ T5 l5 _ => ?_), fun z => nomatch z⟩
            refine s_asg (m := m0) (i := ()) (e_dget (E.rd (e_v 3 (h4'.le l5))) (e_v 2 (hc.le l5)) hv) True.intro ?_
            intro v T6 l6 _ hv6
            obtain ⟨t1, w1, w2, rfl, ht1, hw1, hw2⟩ := dp2 hv6
            have e1 := Is.int hw1
            have e2 := Is.int hw2
            subst e1 e2
            refine g_tup rfl (sqT_sub T6 ht1) (gs_cons (g_n 2 (gs_cons (g_n 5 (gs_nil ?_))))) rfl
            have hlen : (ksD done).length < 100000 := by
              simp only [ksD, List.length_map]
              omega
            refine s_append (m := m0) (i := ()) (e_vat 4) (e_v 5 hw2) True.intro ((oL4.le l5 (fun z => z)).le l6 (fun z => z)) (fun z => z) hlen ?_
            intro T7 l7 _ oL7
            obtain ⟨todo', ht', rfl⟩ := Option.map_eq_some_iff.mp htr
            refine s_nil ⟨b, T7, (), Nat.lt_succ_self _, rfl, f4.trans (l5.fl.trans (l6.fl.trans l7.fl)), True.intro, px, done ++ [pk], todo', _, rfl, ((l4.trans l5).trans l6).step l7 hq0, ?_, ht', by simpa using hk, ?_⟩
            · rw [ksD_app]
              exact oL7
            · simp only [List.length_append, List.length_singleton]
              omega
def fewR : List Sv → Sv → Prop := fun xs y => ∃ st n z o, xs = [.d (oneD st), .d (.int n), .d (.int z)] ∧ Ok st n z ∧ WordIs (risesS st) n z o ∧ y = .d (lenD o)
theorem sc_fewest_to : FnScope ["net", "n", "y", "word"] ["net", "n", "y"] (defScope s_fewest_to) := ⟨rfl, rfl, rfl, by decide, rfl, by decide, by decide⟩
theorem wordPt {K : PySem.W.Frag} {F : Hp} {v : V} {ks : List Nat} (h : Is K F v (wordSv (some ks))) : Is K F v (.d (.tuple (ksD ks))) := Is.pt h
theorem fn_fewest_to (hm : Md K mg) : Cl P w K mg base 5 "fewest_to" s_fewest_to ["net", "n", "y"] (pureSp K fewR) := by
  have C1 := fn_way_or_none (P := P) (w := w) (base := base) hm
  refine .of hm.d_fewest_to (fun _ _ _ _ _ _ us hl => match us, hl with | [_, _, _], _ => rfl) fun f fd F => fnPure F sc_fewest_to (by rintro _ _ ⟨_, _, _, _, rfl, _⟩; rfl) ?_
  rintro cdv A outer s H hr vs W xs y ha ⟨st, n, z, o, rfl, ok, hw, rfl⟩ D hD _
  obtain ⟨v1, v2, v3, rfl, h1, h2, h3⟩ := ha.inv3
  refine s_st (m := m0) (i := ()) 3 (e_callD C1 (ea_cons (e_v 0 h1) (ea_cons (e_v 1 h2) (ea_cons (e_v 2 h3) ea_nil))) ⟨_, _, _, _, rfl, ok, hw, rfl⟩) True.intro ?_
  intro v4 T1 l1 _ h4
  cases o with
  | none => exact s_ret0 (i := ()) (e_if (u := false) (EC.tst (EC.eq (c_notN (e_v 3 (x := .d .none) h4)) rfl)) (fun z => nomatch z) (fun _ => e_non)) l1 hD
  | some ks =>
    have h5 := wordPt h4
    exact s_ret0 (i := ()) (e_if (u := true) (EC.tst (EC.eq (c_notN (e_v 3 h5)) rfl)) (fun _ => e_lenT (bi hm) (e_v 3 h5)) (fun z => nomatch z)) l1 hD (by simp [lenD, ksD])
def wayToR : List Sv → Sv → Prop := fun xs y => ∃ st n z ks, xs = [.d (oneD st), .d (.int n), .d (.int z)] ∧ Ok st n z ∧ WordIs (risesS st) n z (some ks) ∧ y = .pt (ksD ks)
theorem sc_way_to : FnScope ["net", "n", "y", "word"] ["net", "n", "y"] (defScope s_way_to) := ⟨rfl, rfl, rfl, by decide, rfl, by decide, by decide⟩
theorem fn_way_to (hm : Md K mg) : Cl P w K mg base 5 "way_to" s_way_to ["net", "n", "y"] (pureSp K wayToR) := by
  have C1 := fn_way_or_none (P := P) (w := w) (base := base) hm
  refine .of hm.d_way_to (fun _ _ _ _ _ _ us hl => match us, hl with | [_, _, _], _ => rfl) fun f fd F => fnPure F sc_way_to (by rintro _ _ ⟨_, _, _, _, rfl, _⟩; rfl) ?_
  rintro cdv A outer s H hr vs W xs y ha ⟨st, n, z, ks, rfl, ok, hw, rfl⟩ D hD _
  obtain ⟨v1, v2, v3, rfl, h1, h2, h3⟩ := ha.inv3
  refine s_st (m := m0) (i := ()) 3 (e_callD C1 (ea_cons (e_v 0 h1) (ea_cons (e_v 1 h2) (ea_cons (e_v 2 h3) ea_nil))) ⟨_, _, _, _, rfl, ok, hw, rfl⟩) True.intro ?_
  intro v4 T1 l1 _ h4
  have h5 := wordPt h4
  refine s_when (m := m0) (i := ()) (u := false) (EC.tst (EC.eq (c_isN (e_v 3 h5)) rfl)) True.intro (fun z => nomatch z) (fun _ T2 l2 _ => ?_)
  exact s_ret0 (i := ()) (e_v 3 (h4.le l2)) (l1.trans l2) hD
def areR : List Sv → Sv → Prop := fun xs y => ∃ (st : St1) (ns : List Int), xs = [.d (oneD st), .d (.tuple (ns.map .int))] ∧ ns.length ≤ 100000 ∧ y = .d (.bool (ns.all fun k => decide (0 ≤ k) && decide (k ≤ st.length - 1)))
theorem sc_are_counter_steps : FnScope ["net", "value", "item"] ["net", "value"] (defScope s_are_counter_steps) := ⟨rfl, rfl, rfl, by decide, rfl, by decide, by decide⟩
theorem fn_are_counter_steps (hm : Md K mg) : Cl P w K mg base 3 "are_counter_steps" s_are_counter_steps ["net", "value"] (pureSp K areR) := by
  have C1 := fn_is_within (P := P) (w := w) (base := base) hm
  refine .of hm.d_are_counter_steps (fun _ _ _ _ _ _ us hl => match us, hl with | [_, _], _ => rfl) fun f fd F => fnPure F sc_are_counter_steps (by rintro _ _ ⟨_, _, rfl, _⟩; rfl) ?_
  rintro cdv A outer s H hr vs W xs y ha ⟨st, ns, rfl, hl, rfl⟩ D hD _
  obtain ⟨v1, v2, rfl, h1, h2⟩ := ha.inv2
  have hall : (ns.map fun k => PyData.bool (decide (0 ≤ k) && decide (k ≤ (st.length : Int) - 1))) = (ns.map fun k => (decide (0 ≤ k) && decide (k ≤ (st.length : Int) - 1))).map PyData.bool := by simp
  refine s_ret0 (i := ()) (e_and (u := true) (e_isinst (bi hm) (bi hm) (e_v 1 h2) rfl) (fun _ => e_one (e_all (bs := ns.map fun k => (decide (0 ≤ k) && decide (k ≤ (st.length : Int) - 1))) (bi hm) (E.is (EL.E (el_lcM [("item", 2)] (fun k : Int => .bool (decide (0 ≤ k) && decide (k ≤ (st.length : Int) - 1))) (ei_tupE (e_v 1 h2)) hl ?_)) (by rw [hall]))))) (Le.refl W) hD ?_
  · rintro T0 l0 k hk v T hf r hv
    refine ⟨_, fun Q hQ => g_n 2 hQ, rfl, E.is (e_callD C1 (ea_cons (e_v 2 hv) (ea_cons e_int (ea_cons (e_sub (e_lenT (bi hm) (e_v 0 (h1.fl hf))) e_int) ea_nil))) ⟨_, _, _, rfl, rfl⟩) ?_⟩
    simp [withinS, one]
  · simp [List.all_map, Function.comp_def]
end
end K38
set_option Elab.async false
set_option linter.all false
set_option maxRecDepth 100000
set_option maxHeartbeats 4000000
namespace K38
open PySem PySem.Spec PyProof.Rows L2 Pv Oc
section
variable {P : Program} {w : World} {K : PySem.W.Frag} {mg : Str → Option Value} {base : Heap}
theorem faultS_cons {rs : List (Int × Int)} {y x : Int} {k p : Nat} {ks : List Nat} {r : Int × Int} (h : rs[k]? = some r) : faultS rs y (k :: ks) p x = if x < r.1 then .tuple [.str "step", .int (p : Int)] else faultS rs y ks (p + 1) (x + r.2) := by
  rw [faultS, h]
def nfR : List Sv → Sv → Prop := fun xs y => ∃ (st : St1) (n z : Int) (ks : List Nat), xs = [.d (oneD st), .d (.int n), .d (.int z), .d (.tuple (ksD ks))] ∧ st.length ≤ 1000 ∧ ks.length ≤ 100000 ∧ (∀ k ∈ ks, k < st.length) ∧ y = .d (faultS (risesS st) z ks 0 n)
theorem sc_number_fault : FnScope ["net", "n", "y", "word", "rises", "x", "place", "k"] ["net", "n", "y", "word"] (defScope s_number_fault) := ⟨rfl, rfl, rfl, by decide, rfl, by decide, by decide⟩
theorem fn_number_fault (hm : Md K mg) : Cl P w K mg base 3 "number_fault" s_number_fault ["net", "n", "y", "word"] (pureSp K nfR) := by
  have C1 := fn_rises_of (P := P) (w := w) (base := base) hm
  refine .of hm.d_number_fault (fun _ _ _ _ _ _ us hl => match us, hl with | [_, _, _, _], _ => rfl) fun f fd F => fnPure F sc_number_fault (by rintro _ _ ⟨_, _, _, _, rfl, _⟩; rfl) ?_
  rintro cdv A outer s H hr vs W xs y ha ⟨st, n, z, ks, rfl, hl, hkl, hks, rfl⟩ D hD _
  obtain ⟨v1, v2, v3, v4, rfl, h1, h2, h3, h4⟩ := inv4 ha
  refine s_par2 (m := m0) (i := ()) (ea_cons (e_callD C1 (ea_cons (e_v 0 h1) ea_nil) ⟨st, rfl, hl, rfl⟩) (ea_cons (e_v 1 h2) ea_nil)) True.intro (n1 := 4) (n2 := 5) rfl rfl (by decide) rfl rfl ?_ (xs := [])
  intro u1 u2 T1 l1 _ hu1 hu2
  have e1 := Is.int hu2
  subst e1
  refine s_forE (m := m0) (i := ()) (xs := ks.zipIdx) (enc := fun r => .tuple [.int (r.2 : Int), .int (r.1 : Int)]) (fun T0 done σ' T' _ => ∃ (c : Int) (a1 a2 : Option V), σ' = [some v1, some v2, some v3, some v4, some u1, some (.int c), a1, a2] ∧ Le M0 W T' ∧ faultS (risesS st) z ks 0 n = faultS (risesS st) z (ks.drop done.length) done.length c)
    (ei_enumTE (xs := ks) (f := fun k : Nat => .int (k : Int)) (bi hm) (e_v 3 (h4.le l1))) True.intro (fun T0 l0 _ => ⟨n, none, none, rfl, l1.trans l0, rfl⟩) ?_ ?_
  · rintro T0 l0 done ⟨k, p⟩ todo hx _ T2 _ f2 _ ⟨c, a1, a2, rfl, l2, hf⟩ vx T3 l3 _ hvx
    obtain ⟨t1, w1, w2, rfl, ht1, hw1, hw2⟩ := dp2 hvx
    have e1 := Is.int hw1
    have e2 := Is.int hw2
    subst e1 e2
    refine g_tup rfl (sqT_sub T3 ht1) (gs_cons (g_n 6 (gs_cons (g_n 7 (gs_nil ?_))))) rfl
    have hz : ks.zipIdx[done.length]? = some (k, p) := by
      rw [hx]
      simp
    rw [List.getElem?_zipIdx] at hz
    obtain ⟨k', hk', e⟩ := Option.map_eq_some_iff.mp hz
    have e3 : k' = k := congrArg Prod.fst e
    have e4 : 0 + done.length = p := congrArg Prod.snd e
    subst e3
    rw [Nat.zero_add] at e4
    subst e4
    have hkm : k' < st.length := hks k' (List.mem_of_getElem? hk')
    have hdr : ks.drop done.length = k' :: ks.drop (done.length + 1) := by
      have := (List.getElem?_eq_some_iff.mp hk').1
      rw [List.drop_eq_getElem_cons this]
      congr 1
      exact (List.getElem?_eq_some_iff.mp hk').2
    have hr2 : (risesS st)[k']? = some (st[k'].1, st[k'].2 - st[k'].1) := by simp [risesS, hkm]
    rw [hdr, faultS_cons hr2] at hf
    have hc : Is K T3.F (V.int c) (.d (.int c)) := Dp.int _
    have hu1' : Is K T3.F u1 (.d (.list ((risesS st).map enc2))) := hu1.fl (l0.fl.trans (f2.trans l3.fl))
    have hat : atI ((risesS st).map enc2) (k' : Int) = some (.tuple [.int st[k'].1, .int (st[k'].2 - st[k'].1)]) := at_map hr2
    refine s_when (m := m0) (i := ()) (EC.tst (c_lt (e_v 5 hc) (e_ixt (e_ixl (e_v 4 hu1') (e_v 7 hw2) hat) e_int rfl))) True.intro (fun hu T4 l4 _ => ?_) (fun hu T4 l4 _ => ?_)
    · have hlt := of_decide_eq_true hu
      refine s_ret0 (i := ()) (e_tup (ed_cons e_str (ed_cons (e_v 6 (hw1.le l4)) ed_nil))) ((l2.trans l3).trans l4) hD ?_
      rw [hf]
      show _ = Sv.d (if c < st[k'].1 then _ else _)
      rw [if_pos hlt]
    · have hnl := of_decide_eq_false hu
      have hc' : Is K T4.F (V.int c) (.d (.int c)) := Dp.int _
      refine s_st (m := m0) (i := ()) 5 (e_add (e_v 5 hc') (e_ixt (e_ixl (e_v 4 (hu1'.le l4)) (e_v 7 (hw2.le l4)) hat) e_int rfl)) True.intro ?_
      intro u3 T5 l5 _ hu3
      have e5 := Is.int hu3
      subst e5
      refine s_nil ⟨T5, (), rfl, f2.trans (l3.fl.trans (l4.fl.trans l5.fl)), True.intro, _, _, _, rfl, ((l2.trans l3).trans l4).trans l5, ?_⟩
      rw [hf, List.length_append, List.length_singleton]
      show (if c < st[k'].1 then _ else _) = _
      rw [if_neg hnl]
  · rintro T0 l0 _ T2 _ f2 _ ⟨c, a1, a2, rfl, l2, hf⟩
    rw [List.length_zipIdx, List.drop_length] at hf
    have hc : Is K T2.F (V.int c) (.d (.int c)) := Dp.int _
    have h3' := h3.le l2
    by_cases hcz : c = z
    · have e : faultS (risesS st) z ks 0 n = .none := by
        rw [hf]
        unfold faultS
        rw [if_neg (fun h => h hcz)]
      exact s_ret0 (i := ()) (e_if (u := false) (EC.tst (EC.eq (c_nei (e_v 5 hc) (e_v 2 h3')) (by simp [hcz]))) (fun z => nomatch z) (fun _ => e_non)) l2 hD (by rw [e])
    · have e : faultS (risesS st) z ks 0 n = .tuple [.str "number", .int c] := by
        rw [hf]
        unfold faultS
        rw [if_pos hcz]
      exact s_ret0 (i := ()) (e_if (u := true) (EC.tst (EC.eq (c_nei (e_v 5 hc) (e_v 2 h3')) (by simp [hcz]))) (fun _ => e_tup (ed_cons e_str (ed_cons (e_v 5 hc) ed_nil))) (fun z => nomatch z)) l2 hD (by rw [e])
/-- a word that fits and is no longer than any -/
def wteR : List Sv → Sv → Prop := fun xs y => ∃ st n z ks ws, xs = [.d (oneD st), .d (.int n), .d (.int z), .d (.tuple (ksD ks))] ∧ Ok st n z ∧ WordIs (risesS st) n z (some ws) ∧ ks.length ≤ ws.length ∧ ws.length ≤ 100000 ∧ (∀ k ∈ ks, k < st.length) ∧ faultS (risesS st) z ks 0 n = .none ∧ y = .d .none
theorem sc_way_to_error : FnScope ["net", "n", "y", "value", "fewest", "fault"] ["net", "n", "y", "value"] (defScope s_way_to_error) := ⟨rfl, rfl, rfl, by decide, rfl, by decide, by decide⟩
theorem ksD_ints (ks : List Nat) : ksD ks = (ks.map fun k : Nat => (k : Int)).map .int := by simp [ksD]
theorem fn_way_to_error (hm : Md K mg) : Cl P w K mg base 6 "way_to_error" s_way_to_error ["net", "n", "y", "value"] (pureSp K wteR) := by
  have C1 := fn_fewest_to (P := P) (w := w) (base := base) hm
  have C2 := fn_are_counter_steps (P := P) (w := w) (base := base) hm
  have C3 := fn_number_fault (P := P) (w := w) (base := base) hm
  refine .of hm.d_way_to_error (fun _ _ _ _ _ _ us hl => match us, hl with | [_, _, _, _], _ => rfl) fun f fd F => fnPure F sc_way_to_error (by rintro _ _ ⟨_, _, _, _, _, rfl, _⟩; rfl) ?_
  rintro cdv A outer s H hr vs W xs y ha ⟨st, n, z, ks, ws, rfl, ok, hw, hle, hwl, hks, hf, rfl⟩ D hD _
  obtain ⟨v1, v2, v3, v4, rfl, h1, h2, h3, h4⟩ := inv4 ha
  refine s_st (m := m0) (i := ()) 4 (e_callD C1 (ea_cons (e_v 0 h1) (ea_cons (e_v 1 h2) (ea_cons (e_v 2 h3) ea_nil))) ⟨_, _, _, _, rfl, ok, hw, rfl⟩) True.intro ?_
  intro v5 T1 l1 _ h5
  have h5' : Is K T1.F v5 (.d (.int (ws.length : Int))) := h5
  refine s_when (m := m0) (i := ()) (u := false) (EC.tst (EC.eq (c_isN (e_v 4 h5')) rfl)) True.intro (fun z => nomatch z) (fun _ T2 l2 _ => ?_)
  have l12 := l1.trans l2
  have h4i : Is K W.F v4 (.d (.tuple ((ks.map fun k : Nat => (k : Int)).map .int))) := by
    rw [← ksD_ints]
    exact h4
  have hall : (ks.map fun k : Nat => (k : Int)).all (fun k => decide (0 ≤ k) && decide (k ≤ (st.length : Int) - 1)) = true := by
    rw [List.all_eq_true]
    intro x hx
    obtain ⟨k, hk, rfl⟩ := List.mem_map.mp hx
    have := hks k hk
    simp
    omega
  refine s_when (m := m0) (i := ()) (u := false) (et_not (u := true) (et_val (E.is (e_callD C2 (ea_cons (e_v 0 (h1.le l12)) (ea_cons (e_v 3 (h4i.le l12)) ea_nil)) ⟨st, ks.map fun k : Nat => (k : Int), rfl, (by simp; omega), rfl⟩) (by rw [hall])))) True.intro (fun z => nomatch z) (fun _ T3 l3 _ => ?_)
  have l13 := l12.trans l3
  refine s_st (m := m0) (i := ()) 5 (e_callD C3 (ea_cons (e_v 0 (h1.le l13)) (ea_cons (e_v 1 (h2.le l13)) (ea_cons (e_v 2 (h3.le l13)) (ea_cons (e_v 3 (h4.le l13)) ea_nil)))) ⟨_, _, _, _, rfl, ok.l, by omega, hks, rfl⟩) True.intro ?_
  intro v6 T4 l4 _ h6
  rw [hf] at h6
  refine s_when (m := m0) (i := ()) (u := false) (EC.tst (EC.eq (c_notN (e_v 5 h6)) rfl)) True.intro (fun z => nomatch z) (fun _ T5 l5 _ => ?_)
  refine s_ret0 (i := ()) (e_if (u := false) (EC.tst (EC.eq (c_gt (e_lenT (bi hm) (e_v 3 (h4.le ((l13.trans l4).trans l5)))) (e_v 4 (h5'.le (((l2.trans l3).trans l4).trans l5)))) ?_)) (fun z => nomatch z) (fun _ => e_non)) ((l13.trans l4).trans l5) hD
  simp [ksD]
  omega
def paperR : List Sv → Sv → Prop := fun xs y => ∃ st n z s, xs = [.d (oneD st), .d (.int n), .d (.int z)] ∧ Ok st n z ∧ Ok st n n ∧ has (ways (risesS st) n (topS n z)) z = false ∧ ShapeIs (risesS st) n s ∧ y = .d (.tuple [.str "lot", encS s])
theorem sc_number_paper : FnScope ["net", "n", "y"] ["net", "n", "y"] (defScope s_number_paper) := ⟨rfl, rfl, rfl, by decide, rfl, by decide, by decide⟩
theorem fn_number_paper (hm : Md K mg) : Cl P w K mg base 7 "number_paper" s_number_paper ["net", "n", "y"] (pureSp K paperR) := by
  have C1 := fn_comes_to (P := P) (w := w) (base := base) hm
  have C2 := fn_come_shape (P := P) (w := w) (base := base) hm
  refine .of hm.d_number_paper (fun _ _ _ _ _ _ us hl => match us, hl with | [_, _, _], _ => rfl) fun f fd F => fnPure F sc_number_paper (by rintro _ _ ⟨_, _, _, _, rfl, _⟩; rfl) ?_
  rintro cdv A outer s H hr vs W xs y ha ⟨st, n, z, sh, rfl, ok, ok2, hh, hs, rfl⟩ D hD _
  obtain ⟨v1, v2, v3, rfl, h1, h2, h3⟩ := ha.inv3
  refine s_when (m := m0) (i := ()) (u := false) (et_val (E.is (e_callD C1 (ea_cons (e_v 0 h1) (ea_cons (e_v 1 h2) (ea_cons (e_v 2 h3) ea_nil))) ⟨_, _, _, rfl, ok, rfl⟩) (by rw [hh]))) True.intro (fun z => nomatch z) (fun _ T1 l1 _ => ?_)
  exact s_ret0 (i := ()) (e_tup (ed_cons e_str (ed_cons (e_callD C2 (ea_cons (e_v 0 (h1.le l1)) (ea_cons (e_v 1 (h2.le l1)) ea_nil)) ⟨_, _, _, rfl, ok2, hs, rfl⟩) ed_nil))) l1 hD
end
end K38
set_option Elab.async false
set_option linter.all false
set_option maxRecDepth 100000
set_option maxHeartbeats 4000000
namespace K38
open PySem PySem.Spec PyProof.Rows L2 Pv Oc
section
variable {P : Program} {w : World} {K : PySem.W.Frag} {mg : Str → Option Value} {base : Heap}
def isShapeR : List Sv → Sv → Prop := fun xs y => ∃ s, xs = [.d (encS s)] ∧ isShapeS s = true ∧ y = .d (.bool true)
theorem sc_is_shape : FnScope ["value", "numbers", "low", "g", "x", "one", "other"] ["value"] (defScope s_is_shape) := ⟨rfl, rfl, rfl, by decide, rfl, by decide, by decide⟩
theorem cut1 (ns : List Int) : Pv.cutD (ns.map PyData.int) (some 1) none = (ns.drop 1).map .int := by
  unfold Pv.cutD
  cases ns with
  | nil => rfl
  | cons a l =>
    have e1 : HT.sIx (List.map PyData.int (a :: l)).length 0 (some 1) = 1 := by
      simp [HT.sIx]
    have e2 : HT.sIx (List.map PyData.int (a :: l)).length (List.map PyData.int (a :: l)).length none = l.length + 1 := by
      simp [HT.sIx]
    rw [e1, e2]
    simp only [List.map_cons, List.drop_succ_cons, List.drop_zero, Nat.add_sub_cancel]
    exact List.take_of_length_le (by simp)
theorem fn_is_shape (hm : Md K mg) : Cl P w K mg base 3 "is_shape" s_is_shape ["value"] (pureSp K isShapeR) := by
  have C1 := fn_is_within (P := P) (w := w) (base := base) hm
  refine .of hm.d_is_shape (fun _ _ _ _ _ _ us hl => match us, hl with | [_], _ => rfl) fun f fd F => fnPure F sc_is_shape (by rintro _ _ ⟨_, rfl, _⟩; rfl) ?_
  rintro cdv A outer s H hr vs W xs y ha ⟨sh, rfl, hs, rfl⟩ D hD _
  obtain ⟨v1, rfl, h1⟩ := ha.inv1
  obtain ⟨ns, low, g⟩ := sh
  unfold isShapeS at hs
  simp only [Bool.and_eq_true] at hs
  obtain ⟨⟨⟨⟨q1, q2⟩, q3⟩, q4⟩, q5⟩ := hs
  have q1' : ns.length ≤ 500 := of_decide_eq_true q1
  have h1' : Is K W.F v1 (.d (.tuple [rowD ns, .int low, .int g])) := h1
  refine s_when (m := m0) (i := ()) (u := false) (et_w (ew_or (u := false) (et_not (u := true) (et_val (e_isinst (bi hm) (bi hm) (e_v 0 h1') rfl))) (fun _ => ew_or (u := false) (EC.tst (EC.eq (c_nei (e_lenT (bi hm) (e_v 0 h1')) e_int) rfl)) (fun _ => ew_or1 (u := false) (et_not (u := true) (et_val (e_isinst (bi hm) (bi hm) (e_ixt (e_v 0 h1') e_int rfl) rfl))))))) True.intro (fun z => nomatch z) (fun _ T1 l1 _ => ?_)
  refine s_asg (m := m0) (i := ()) (e_v 0 (h1'.le l1)) True.intro ?_
  intro v T2 l2 _ hv
  obtain ⟨t1, w1, w2, w3, rfl, ht1, hw1, hw2, hw3⟩ := dp3 hv
  have hw1' : Is K T2.F w1 (.d (.tuple (ns.map .int))) := hw1
  refine g_tup rfl (sqT_sub T2 ht1) (gs_cons (g_n 1 (gs_cons (g_n 2 (gs_cons (g_n 3 (gs_nil ?_))))))) rfl
  have hall1 : (ns.map fun x => PyData.bool (decide (0 ≤ x) && decide (x ≤ 1000000000))) = (ns.map fun x => (decide (0 ≤ x) && decide (x ≤ 1000000000))).map PyData.bool := by simp
  refine s_when (m := m0) (i := ()) (u := false) (et_w (ew_or (u := false) (EC.tst (EC.eq (c_gt (e_lenT (bi hm) (e_v 1 hw1')) (e_gint rfl hm.i_MAX_LISTED)) (by simp; omega))) (fun _ => ew_or1 (u := false) (et_not (u := true) (et_val (E.is (e_all (bs := ns.map fun x => (decide (0 ≤ x) && decide (x ≤ 1000000000))) (bi hm) (E.is (EL.E (el_lcM [("x", 4)] (fun x : Int => .bool (decide (0 ≤ x) && decide (x ≤ 1000000000))) (ei_tupE (e_v 1 hw1')) (by omega) ?_)) (by rw [hall1]))) ?_)))))) True.intro (fun z => nomatch z) (fun _ T3 l3 _ => ?_)
  · rintro T0 l0 k hk v T hf r hv
    exact ⟨_, fun Q hQ => g_n 4 hQ, rfl, E.is (e_callD C1 (ea_cons (e_v 4 hv) (ea_cons e_int (ea_cons (e_gint rfl hm.i_MAX_TOKENS) ea_nil))) ⟨_, _, _, rfl, rfl⟩) rfl⟩
  · simp only [List.all_map, Function.comp_def, id]
    rw [q2]
  have hall2 : ((ns.zip (ns.drop 1)).map fun p => PyData.bool (decide (p.1 < p.2))) = ((ns.zip (ns.drop 1)).map fun p => decide (p.1 < p.2)).map PyData.bool := by simp
  refine s_when (m := m0) (i := ()) (u := false) (et_not (u := true) (et_val (E.is (e_all (bs := (ns.zip (ns.drop 1)).map fun p => decide (p.1 < p.2)) (bi hm) (E.is (EL.E (el_lcM [("one", 5), ("other", 6)] (fun p : Int × Int => .bool (decide (p.1 < p.2))) (ei_zipE (xs := ns) (ys := ns.drop 1) (bi hm) (e_v 1 (hw1'.le l3)) (E.is (e_sliceT (e_v 1 (hw1'.le l3)) (eo_some e_int) eo_none) (by rw [cut1]))) (by simp; omega) ?_)) (by rw [hall2]))) ?_))) True.intro (fun z => nomatch z) (fun _ T4 l4 _ => ?_)
  · rintro T0 l0 ⟨p1, p2⟩ hk v T hf r hv
    obtain ⟨t1, w1, w2, rfl, ht1, hw1, hw2⟩ := dp2 hv
    exact ⟨_, fun Q hQ => g_tup rfl (sqT_sub T ht1) (gs_cons (g_n 5 (gs_cons (g_n 6 (gs_nil hQ))))) rfl, rfl, EC.val (c_lt (e_v 5 hw1) (e_v 6 hw2))⟩
  · simp only [List.all_map, Function.comp_def, id]
    rw [q3]
  exact s_ret0 (i := ()) (e_and (u := true) (v := true) (E.is (e_callD C1 (ea_cons (e_v 2 (hw2.le (l3.trans l4))) (ea_cons e_int (ea_cons (e_gint rfl hm.i_MAX_TOKENS) ea_nil))) ⟨_, _, _, rfl, rfl⟩) (by simp only [withinS]; rw [q4.1, q4.2]; rfl))
    (fun _ => e_one (E.is (e_callD C1 (ea_cons (e_v 3 (hw3.le (l3.trans l4))) (ea_cons e_int (ea_cons (e_gint rfl hm.i_MAX_WEIGHT) ea_nil))) ⟨_, _, _, rfl, rfl⟩) (by simp only [withinS]; rw [q5.1, q5.2]; rfl)))) (((l1.trans l2).trans l3).trans l4) hD
def openR : List Sv → Sv → Prop := fun xs y => ∃ (st : St1) (s : Oc.Shape), xs = [.d (oneD st), .d (encS s)] ∧ st.length ≤ 1000 ∧ s.1.length ≤ 500 ∧ closedS (risesS st) s ∧ s.2.2 < 1000 ∧ y = .d .none
theorem sc_open_fault : FnScope ["net", "shape", "numbers", "low", "g", "some", "turn", "x", "k", "least", "change"] ["net", "shape"] (defScope s_open_fault) := ⟨rfl, rfl, rfl, by decide, rfl, by decide, by decide⟩
theorem fn_open_fault (hm : Md K mg) : Cl P w K mg base 3 "open_fault" s_open_fault ["net", "shape"] (pureSp K openR) := by
  have C1 := fn_rises_of (P := P) (w := w) (base := base) hm
  have C2 := fn_is_in_shape (P := P) (w := w) (base := base) hm
  refine .of hm.d_open_fault (fun _ _ _ _ _ _ us hl => match us, hl with | [_, _], _ => rfl) fun f fd F => fnPure F sc_open_fault (by rintro _ _ ⟨_, _, rfl, _⟩; rfl) ?_
  rintro cdv A outer s H hr vs W xs y ha ⟨st, sh, rfl, hl, hsl, hcl, hg, rfl⟩ D hD hN
  obtain ⟨v1, v2, rfl, h1, h2⟩ := ha.inv2
  refine s_asg (m := m0) (i := ()) (e_v 1 h2) True.intro ?_
  intro v T1 l1 _ hv
  obtain ⟨t1, w1, w2, w3, rfl, ht1, hw1, hw2, hw3⟩ := dp3 hv
  have hw1' : Is K T1.F w1 (.d (.tuple (sh.1.map .int))) := hw1
  refine g_tup rfl (sqT_sub T1 ht1) (gs_cons (g_n 2 (gs_cons (g_n 3 (gs_cons (g_n 4 (gs_nil ?_))))))) rfl
  refine s_stG (m := m0) (i := ()) 5 (el_listT (bi hm) (e_v 2 hw1')) True.intro ?_
  rintro _ T2 l2 _ ⟨qs, us, rfl, u1, u2, u3, u4⟩
  have oL : OwnL K T2 qs (sh.1.map .int) := ⟨u2, us, u3, u4⟩
  have hq0 : W.H qs = none := l1.back u1
  have key : ∀ T, Le M0 W T → Fl T1 T → OwnL K T qs ((someS sh).map .int) → ∀ a1 a2 a3 a4 a5, wSs (dFam P w K mg base ["net", "shape", "numbers", "low", "g", "some", "turn", "x", "k", "least", "change"] sc_open_fault.nd "open_fault" (defScope s_open_fault) f cdv A outer s H 2 hr) ((defBody s_open_fault).drop 3) D [some v1, some v2, some w1, some w2, some w3, some (.ref qs), a1, a2, a3, a4, a5] T.H := by
    intro T l3 f3 oT a1 a2 a3 a4 a5
    refine s_forE (m := m0) (i := ()) (xs := srt (someS sh)) (enc := .int) (fun T0 done σ' T' _ => ∃ (a2 a3 a4 a5 : Option V), σ' = [some v1, some v2, some w1, some w2, some w3, some (.ref qs), a1, a2, a3, a4, a5] ∧ Le M0 W T')
      (ei_lstE (EL.E (el_sortedR (ns' := srt (someS sh)) (bi hm) (rl_v 5 oT (fun z => z)) (srt_perm _) (srt_pw _)))) True.intro (fun T0 l0 _ => ⟨_, _, _, _, rfl, l3.trans l0⟩) ?_ ?_
    · rintro T0 l0 done x todo hx _ T4 _ f4 _ ⟨a2, a3, a4, a5, rfl, l4⟩ vx T5 l5 _ hvx
      have e := Is.int (K := K) hvx
      subst e
      refine g_n 7 ?_
      have l45 := l4.trans l5
      have hxm : x ∈ someS sh := srt_mem.mp (by rw [hx]; simp)
      refine s_forE (m := m0) (i := ()) (xs := (risesS st).zipIdx) (enc := fun r => .tuple [.int (r.2 : Int), enc2 r.1]) (fun T0' done' σ' T' _ => ∃ (a3 a4 a5 : Option V), σ' = [some v1, some v2, some w1, some w2, some w3, some (.ref qs), a1, some (.int x), a3, a4, a5] ∧ Le M0 W T')
        (ei_enumLE (bi hm) (e_callD C1 (ea_cons (e_v 0 (h1.le l45)) ea_nil) ⟨st, rfl, hl, rfl⟩)) True.intro (fun T0' l0' _ => ⟨_, _, _, rfl, l45.trans l0'⟩) ?_ ?_
      · rintro T0' l0' done' ⟨⟨le, ch⟩, ki⟩ todo' hx' _ T6 _ f6 _ ⟨a3, a4, a5, rfl, l6⟩ vx9 T7 l7 _ hvx9
        obtain ⟨t1, z1, z2, rfl, ht1, hz1, hz2⟩ := dp2 hvx9
        obtain ⟨t2, z3, z4, rfl, ht2, hz3, hz4⟩ := dp2 hz2
        refine g_tup rfl (sqT_sub T7 ht1) (gs_cons (g_n 8 (gs_cons (g_tup rfl (sqT_sub T7 ht2) (gs_cons (g_n 9 (gs_cons (g_n 10 (gs_nil (gs_nil ?_)))))) rfl)))) rfl
        have l67 := l6.trans l7
        have hxx : Is K T7.F (V.int x) (.d (.int x)) := Dp.int _
        have hmem : (le, ch) ∈ risesS st := zipIdx_mem (p := ((le, ch), ki)) (by rw [hx']; simp)
        by_cases hc : le ≤ x
        · refine s_when (m := m0) (i := ()) (u := false) (et_w (ew_and (u := true) (v := false) (EC.tst (EC.eq (c_ge (e_v 7 hxx) (e_v 9 hz3)) (decide_eq_true hc))) (fun _ => ew_and1 (et_not (u := true) (et_val (E.is (e_callD C2 (ea_cons (e_v 1 (h2.le l67)) (ea_cons (e_add (e_v 7 hxx) (e_v 10 hz4)) ea_nil)) ⟨sh, _, rfl, rfl⟩) (by rw [hcl x hxm _ hmem hc]))))))) True.intro (fun z => nomatch z) (fun _ T8 l8 _ => ?_)
          exact s_nil ⟨T8, (), rfl, f6.trans (l7.fl.trans l8.fl), True.intro, _, _, _, rfl, l67.trans l8⟩
        · refine s_when (m := m0) (i := ()) (u := false) (et_w (ew_and (u := false) (v := false) (EC.tst (EC.eq (c_ge (e_v 7 hxx) (e_v 9 hz3)) (decide_eq_false hc))) (fun z => nomatch z))) True.intro (fun z => nomatch z) (fun _ T8 l8 _ => ?_)
          exact s_nil ⟨T8, (), rfl, f6.trans (l7.fl.trans l8.fl), True.intro, _, _, _, rfl, l67.trans l8⟩
      · rintro T0' l0' _ T6 _ f6 _ ⟨a3, a4, a5, rfl, l6⟩
        exact s_nil ⟨T6, (), rfl, f4.trans (l5.fl.trans (l0'.fl.trans f6)), True.intro, _, _, _, _, rfl, l6⟩
    · rintro T0 l0 _ T4 _ f4 _ ⟨a2, a3, a4, a5, rfl, l4⟩
      exact s_ret0 (i := ()) e_non l4 hD
  by_cases hgp : 0 < sh.2.2
  · refine s_when (m := m0) (i := ()) (u := true) (EC.tst (EC.eq (c_gt (e_v 4 (hw3.le l2)) e_int) (decide_eq_true hgp))) True.intro (fun _ T3 l3 _ => ?_) (fun z => nomatch z)
    refine s_extend (m := m0) (i := ()) (e_vat 5) (el_lcM [("turn", 6)] (fun t : Int => .int (sh.2.1 + t * sh.2.2)) (ei_rg1E (bi hm) (e_add (e_gint rfl hm.i_MAX_LISTED) (e_gint rfl hm.i_MOST_TERMS)) ⟨by decide, by decide⟩) (by rw [rgI_len]; decide) ?_) True.intro (oL.le l3 (fun z => z)) (fun z => z) (by simp [rgI_len]; omega) ?_
    · rintro T0 l0 t hk v T hf r hv
      exact ⟨_, fun Q hQ => g_n 6 hQ, rfl, e_add (e_v 3 (((hw2.le l2).le l3).fl hf)) (e_mul (e_v 6 hv) (e_v 4 (((hw3.le l2).le l3).fl hf)) (.inr ⟨by omega, by omega⟩))⟩
    · intro T4 l4 _ oT
      refine s_nil (key T4 (((l1.trans l2).trans l3).step l4 hq0) (l2.fl.trans (l3.fl.trans l4.fl)) ?_ _ _ _ _ _)
      have e : (someS sh).map PyData.int = sh.1.map .int ++ (rgI 0 (500 + 30 : Int).toNat).map fun t => .int (sh.2.1 + t * sh.2.2) := by
        unfold someS
        rw [if_pos hgp, List.map_append, List.map_map]
        rfl
      rw [e]
      exact oT
  · refine s_when (m := m0) (i := ()) (u := false) (EC.tst (EC.eq (c_gt (e_v 4 (hw3.le l2)) e_int) (decide_eq_false hgp))) True.intro (fun z => nomatch z) (fun _ T3 l3 _ => ?_)
    refine key T3 ((l1.trans l2).trans l3) (l2.fl.trans l3.fl) ?_ _ _ _ _ _
    have e : (someS sh).map PyData.int = sh.1.map .int := by
      unfold someS
      rw [if_neg hgp, List.append_nil]
    rw [e]
    exact oL.le l3 (fun z => z)
def sfR : List Sv → Sv → Prop := fun xs y => ∃ (st : St1) (n z : Int) (s : Oc.Shape), xs = [.d (oneD st), .d (.int n), .d (.int z), .d (encS s)] ∧ st.length ≤ 1000 ∧ s.1.length ≤ 500 ∧ closedS (risesS st) s ∧ s.2.2 < 1000 ∧ inS s n = true ∧ inS s z = false ∧ y = .d .none
theorem sc_shape_fault : FnScope ["net", "n", "y", "shape"] ["net", "n", "y", "shape"] (defScope s_shape_fault) := ⟨rfl, rfl, rfl, by decide, rfl, by decide, by decide⟩
theorem fn_shape_fault (hm : Md K mg) : Cl P w K mg base 4 "shape_fault" s_shape_fault ["net", "n", "y", "shape"] (pureSp K sfR) := by
  have C1 := fn_open_fault (P := P) (w := w) (base := base) hm
  have C2 := fn_is_in_shape (P := P) (w := w) (base := base) hm
  refine .of hm.d_shape_fault (fun _ _ _ _ _ _ us hl => match us, hl with | [_, _, _, _], _ => rfl) fun f fd F => fnPure F sc_shape_fault (by rintro _ _ ⟨_, _, _, _, rfl, _⟩; rfl) ?_
  rintro cdv A outer s H hr vs W xs y ha ⟨st, n, z, sh, rfl, hl, hsl, hcl, hg, hn, hz, rfl⟩ D hD _
  obtain ⟨v1, v2, v3, v4, rfl, h1, h2, h3, h4⟩ := inv4 ha
  refine s_when (m := m0) (i := ()) (u := false) (et_not (u := true) (et_val (E.is (e_callD C2 (ea_cons (e_v 3 h4) (ea_cons (e_v 1 h2) ea_nil)) ⟨sh, _, rfl, rfl⟩) (by rw [hn])))) True.intro (fun z => nomatch z) (fun _ T1 l1 _ => ?_)
  exact s_ret0 (i := ()) (e_if (u := false) (et_val (E.is (e_callD C2 (ea_cons (e_v 3 (h4.le l1)) (ea_cons (e_v 2 (h3.le l1)) ea_nil)) ⟨sh, _, rfl, rfl⟩) (by rw [hz]))) (fun z => nomatch z) (fun _ => e_callD C1 (ea_cons (e_v 0 (h1.le l1)) (ea_cons (e_v 3 (h4.le l1)) ea_nil)) ⟨st, sh, rfl, hl, hsl, hcl, hg, rfl⟩)) l1 hD
def npeR : List Sv → Sv → Prop := fun xs y => ∃ (st : St1) (n z : Int) (s : Oc.Shape), xs = [.d (oneD st), .d (.int n), .d (.int z), .d (.tuple [.str "lot", encS s])] ∧ st.length ≤ 1000 ∧ isShapeS s = true ∧ closedS (risesS st) s ∧ inS s n = true ∧ inS s z = false ∧ y = .d .none
theorem sc_number_paper_error : FnScope ["net", "n", "y", "value", "word", "told"] ["net", "n", "y", "value"] (defScope s_number_paper_error) := ⟨rfl, rfl, rfl, by decide, rfl, by decide, by decide⟩
theorem isShapeS_len {s : Oc.Shape} (h : isShapeS s = true) : s.1.length ≤ 500 ∧ s.2.2 < 1000 := by
  unfold isShapeS at h
  simp only [Bool.and_eq_true, decide_eq_true_eq] at h
  omega
theorem fn_number_paper_error (hm : Md K mg) : Cl P w K mg base 5 "number_paper_error" s_number_paper_error ["net", "n", "y", "value"] (pureSp K npeR) := by
  have C1 := fn_is_shape (P := P) (w := w) (base := base) hm
  have C2 := fn_shape_fault (P := P) (w := w) (base := base) hm
  refine .of hm.d_number_paper_error (fun _ _ _ _ _ _ us hl => match us, hl with | [_, _, _, _], _ => rfl) fun f fd F => fnPure F sc_number_paper_error (by rintro _ _ ⟨_, _, _, _, rfl, _⟩; rfl) ?_
  rintro cdv A outer s H hr vs W xs y ha ⟨st, n, z, sh, rfl, hl, hs, hcl, hn, hz, rfl⟩ D hD _
  obtain ⟨v1, v2, v3, v4, rfl, h1, h2, h3, h4⟩ := inv4 ha
  obtain ⟨q1, q2⟩ := isShapeS_len hs
  refine s_when (m := m0) (i := ()) (u := false) (et_w (ew_or (u := false) (et_not (u := true) (et_val (e_isinst (bi hm) (bi hm) (e_v 3 h4) rfl))) (fun _ => ew_or (u := false) (EC.tst (EC.eq (c_nei (e_lenT (bi hm) (e_v 3 h4)) e_int) rfl)) (fun _ => ew_or1 (u := false) (et_not (u := true) (et_val (e_isinst (bi hm) (bi hm) (e_ixt (e_v 3 h4) e_int rfl) rfl))))))) True.intro (fun z => nomatch z) (fun _ T1 l1 _ => ?_)
  refine s_asg (m := m0) (i := ()) (e_v 3 (h4.le l1)) True.intro ?_
  intro v T2 l2 _ hv
  obtain ⟨t1, w1, w2, rfl, ht1, hw1, hw2⟩ := dp2 hv
  refine g_tup rfl (sqT_sub T2 ht1) (gs_cons (g_n 4 (gs_cons (g_n 5 (gs_nil ?_))))) rfl
  refine s_when (m := m0) (i := ()) (u := false) (et_w (ew_and (u := false) (v := false) (EC.tst (EC.eq (c_eqs (e_v 4 hw1) e_str) (by decide))) (fun z => nomatch z))) True.intro (fun z => nomatch z) (fun _ T3 l3 _ => ?_)
  refine s_when (m := m0) (i := ()) (u := false) (et_w (ew_or (u := false) (EC.tst (EC.eq (c_nes (e_v 4 (hw1.le l3)) e_str) (by decide))) (fun _ => ew_or1 (u := false) (et_not (u := true) (et_val (e_callD C1 (ea_cons (e_v 5 (hw2.le l3)) ea_nil) ⟨sh, rfl, hs, rfl⟩)))))) True.intro (fun z => nomatch z) (fun _ T4 l4 _ => ?_)
  have l14 := ((l1.trans l2).trans l3).trans l4
  exact s_ret0 (i := ()) (e_callD C2 (ea_cons (e_v 0 (h1.le l14)) (ea_cons (e_v 1 (h2.le l14)) (ea_cons (e_v 2 (h3.le l14)) (ea_cons (e_v 5 (hw2.le (l3.trans l4))) ea_nil)))) ⟨st, _, _, sh, rfl, hl, q1, hcl, q2, hn, hz, rfl⟩) l14 hD
end
end K38
set_option Elab.async false
set_option linter.all false
set_option maxRecDepth 100000
set_option maxHeartbeats 4000000
namespace Pv
open PySem PySem.Spec PyProof.Rows L2
open Classical in
noncomputable def pick {α : Type} (p : Prop) (x y : α) : α := if p then x else y
theorem pick_t {α : Type} {p : Prop} {x y : α} (h : p) : pick p x y = x := by
  unfold pick
  exact if_pos h
theorem pick_f {α : Type} {p : Prop} {x y : α} (h : ¬ p) : pick p x y = y := by
  unfold pick
  exact if_neg h
/-! ### things lent to the abstract heap, and taken back -/
abbrev anyO : HO := .ext fun _ => True
noncomputable def lendH (H : Hp) (cs : Addr → Prop) (ob : Addr → Obj) : Hp := fun a => pick (cs a) (some (.frz (ob a) anyO)) (H a)
noncomputable def delL (H : Hp) (cs : Addr → Prop) : Hp := fun a => pick (cs a) none (H a)
theorem lend_in {H : Hp} {cs : Addr → Prop} {ob : Addr → Obj} {a : Addr} (h : cs a) : lendH H cs ob a = some (.frz (ob a) anyO) := pick_t h
theorem lend_out {H : Hp} {cs : Addr → Prop} {ob : Addr → Obj} {a : Addr} (h : ¬ cs a) : lendH H cs ob a = H a := pick_f h
theorem del_in {H : Hp} {cs : Addr → Prop} {a : Addr} (h : cs a) : delL H cs a = none := pick_t h
theorem del_out {H : Hp} {cs : Addr → Prop} {a : Addr} (h : ¬ cs a) : delL H cs a = H a := pick_f h
theorem hok_lend {P : Program} {w : World} {H : Hp} {h : Heap} {cs : Addr → Prop} {ob : Addr → Obj} (x : HOk P w H h) (hg : ∀ c, cs c → h.get? c = some (ob c)) (hn : ∀ c, cs c → H c = none) : HOk P w (lendH H cs ob) h := fun a o e => by
  by_cases hc : cs a
  · rw [lend_in hc] at e
    cases e
    exact ⟨hg a hc, True.intro, ⟨_, hg a hc⟩, fun _ _ _ _ => True.intro⟩
  · rw [lend_out hc] at e
    have up : ∀ b u, H b = some u → lendH H cs ob b = some u := fun b u q => by
      rw [lend_out fun z => by rw [hn b z] at q; cases q]
      exact q
    exact (x a o e).stay (fun b u _ q => q) (fun b q => up b _ q) fun b xs q => up b _ q
theorem hok_del {P : Program} {w : World} {H : Hp} {h : Heap} {cs : Addr → Prop} (x : HOk P w H h) (hc : ∀ c, cs c → ∃ o u, H c = some (.frz o u)) : HOk P w (delL H cs) h := fun a o e => by
  by_cases ha : cs a
  · rw [del_in ha] at e
    cases e
  · rw [del_out ha] at e
    refine (x a o e).stay (fun b u _ q => q) (fun b q => ?_) fun b xs q => ?_
    · rw [del_out fun z => by
        obtain ⟨o1, u1, h1⟩ := hc b z
        rw [h1] at q
        cases q]
      exact q
    · rw [del_out fun z => by
        obtain ⟨o1, u1, h1⟩ := hc b z
        rw [h1] at q
        cases q]
      exact q
/-- a run with things lent is a run without -/
theorem un_lend {fs : List Addr} {H H' : Hp} {h h' : Heap} {cs : Addr → Prop} {ob : Addr → Obj} {P : Program} {w : World} (u : Un fs [] (lendH H cs ob) H' h h') (ok : HOk P w H' h') (hg : ∀ c, cs c → h.get? c = some (ob c)) (hn : ∀ c, cs c → H c = none) : Un fs [] H (delL H' cs) h h' where
  keep := fun b o q n hf hx => by
    by_cases hc : cs b
    · have := u.frzs b _ _ (lend_in hc)
      obtain ⟨e, _⟩ := (show ObjOk P w H' h' b (.frz (ob b) anyO) from ok b _ this)
      rw [hg b hc] at q
      cases q
      exact e
    · exact u.keep b o q (by rw [lend_out hc]; exact n) hf hx
  slot := fun b o q n hf hx => by
    by_cases hc : cs b
    · have := u.frzs b _ _ (lend_in hc)
      obtain ⟨e, _⟩ := (show ObjOk P w H' h' b (.frz (ob b) anyO) from ok b _ this)
      rw [hg b hc] at q
      cases q
      exact ⟨(ob b).slots, e⟩
    · exact u.slot b o q (by rw [lend_out hc]; exact n) hf hx
  free := fun b o q n hx => by
    by_cases hc : cs b
    · exact del_in hc
    · rw [del_out hc]
      exact u.free b o q (by rw [lend_out hc]; exact n) hx
  there := u.there
  tups := fun b xs q => by
    have hc : ¬ cs b := fun z => by rw [hn b z] at q; cases q
    rw [del_out hc]
    exact u.tups b xs (by rw [lend_out hc]; exact q)
  frzs := fun b o v q => by
    have hc : ¬ cs b := fun z => by rw [hn b z] at q; cases q
    rw [del_out hc]
    exact u.frzs b o v (by rw [lend_out hc]; exact q)
  tbls := fun b ps q => by
    have hc : ¬ cs b := fun z => by rw [hn b z] at q; cases q
    rw [del_out hc]
    exact u.tbls b ps (by rw [lend_out hc]; exact q)
/-- a run without the things is a run with them -/
theorem un_back {fs : List Addr} {H H2 : Hp} {h h' : Heap} {cs : Addr → Prop} {ob : Addr → Obj} (u : Un fs [] (delL H cs) H2 h h') (hl : ∀ c, cs c → H c = some (.frz (ob c) anyO)) (hh : ∀ c, cs c → h.get? c = some (ob c)) (hf : ∀ c, cs c → c ∉ fs) :
    Un fs [] H (lendH H2 cs ob) h h' ∧ (∀ c, cs c → h'.get? c = some (ob c) ∧ H2 c = none) := by
  have key : ∀ c, cs c → h'.get? c = some (ob c) ∧ H2 c = none := fun c hc => ⟨u.keep c _ (hh c hc) (del_in hc) (hf c hc) (fun z => by cases z), u.free c _ (hh c hc) (del_in hc) (fun z => by cases z)⟩
  refine ⟨⟨fun b o q n hf' hx => ?_, fun b o q n hf' hx => ?_, fun b o q n hx => ?_, u.there, fun b xs q => ?_, fun b o v q => ?_, fun b ps q => ?_⟩, key⟩
  · have hc : ¬ cs b := fun z => by rw [hl b z] at n; cases n
    exact u.keep b o q (by rw [del_out hc]; exact n) hf' hx
  · have hc : ¬ cs b := fun z => by rw [hl b z] at n; cases n
    exact u.slot b o q (by rw [del_out hc]; exact n) hf' hx
  · have hc : ¬ cs b := fun z => by rw [hl b z] at n; cases n
    rw [lend_out hc]
    exact u.free b o q (by rw [del_out hc]; exact n) hx
  · have hc : ¬ cs b := fun z => by rw [hl b z] at q; cases q
    rw [lend_out hc]
    exact u.tups b xs (by rw [del_out hc]; exact q)
  · by_cases hc : cs b
    · rw [hl b hc] at q
      cases q
      exact lend_in hc
    · rw [lend_out hc]
      exact u.frzs b o v (by rw [del_out hc]; exact q)
  · have hc : ¬ cs b := fun z => by rw [hl b z] at q; cases q
    rw [lend_out hc]
    exact u.tbls b ps (by rw [del_out hc]; exact q)
end Pv
set_option Elab.async false
set_option linter.all false
set_option maxRecDepth 100000
set_option maxHeartbeats 4000000
namespace Pv
open PySem PySem.Spec PyProof.Rows L2
/-- the cells of a context's frame -/
def isC (X : Cx) (c : Addr) : Prop := ∃ y, X.env.cells.lookup y = some c
section
variable {X : Cx} {pins : List (Addr × Obj)} {σ : L2.St} {H : Hp} {s : Shared}
theorem c_old (I : Inv X pins σ H s) (hfn : ∀ y, X.fn y = true) {c : Addr} (h : isC X c) : X.s_0.heap.objs.size ≤ c := by
  obtain ⟨y, hy⟩ := h
  exact I.ok.cab y c (hfn y) hy
theorem c_stk (I : Inv X pins σ H s) (hfn : ∀ y, X.fn y = true) {c : Addr} (h : isC X c) : c ∉ frs X.stack := fun z => by
  have h1 := c_old I hfn h
  have hout : c ∉ X.fs := fun hb => by
    obtain ⟨_, o, ho, _⟩ := I.ok.funs.mem hb
    exact absurd (Nat.lt_of_lt_of_le (Heap.lt_size ho) h1) (Nat.lt_irrefl _)
  rcases I.ok.stk with e | ⟨e, e2⟩
  · rw [e] at z
    exact hout z
  · rw [e] at z
    have z' : c ∈ frs (X.env :: X.outer) := z
    unfold frs at z'
    rw [List.filterMap_cons, e2] at z'
    rcases List.mem_cons.mp z' with q | q
    · obtain ⟨y, hy⟩ := h
      exact I.cne y c hy q
    · exact hout q
noncomputable def cellOb (h : Heap) (c : Addr) : Obj := (h.get? c).getD { cls := .none, data := .fields #[] }
/-- the state of a call with the frame's cells lent -/
theorem env0_lend (I : Inv X pins σ H s) (hfn : ∀ y, X.fn y = true) : Env0 X.prog X.w X.K X.mg X.base X.A X.stack s (lendH H (isC X) (cellOb s.heap)) ∧ (∀ c, isC X c → s.heap.get? c = some (cellOb s.heap c) ∧ H c = none ∧ ∃ v, (cellOb s.heap c).data = .cell v) := by
  have hc : ∀ c, isC X c → s.heap.get? c = some (cellOb s.heap c) ∧ H c = none ∧ ∃ v, (cellOb s.heap c).data = .cell v := fun c ⟨y, hy⟩ => by
    obtain ⟨v, o, ho, hd⟩ := I.cell y c hy
    have e : cellOb s.heap c = o := by
      unfold cellOb
      rw [ho] <;> rfl
    exact ⟨by rw [e]; exact ho, I.freeC y c hy, v, by rw [e]; exact hd⟩
  have e0 := I.env0
  refine ⟨⟨e0.frames, e0.mod, fun b o e => ⟨(e0.bs b o e).1, ?_⟩, e0.bsz, e0.funs, fun b hb => ?_, hok_lend e0.hok (fun c h => (hc c h).1) (fun c h => (hc c h).2.1), e0.bare⟩, hc⟩
  · rw [lend_out fun h => ?_]
    · exact (e0.bs b o e).2
    · exact absurd (Nat.lt_of_lt_of_le (Nat.lt_of_lt_of_le (Heap.lt_size e) I.ok.bsz) (c_old I hfn h)) (Nat.lt_irrefl _)
  · rw [lend_out fun h => c_stk I hfn h hb]
    exact e0.frf b hb
/-- what the cells hold -/
def CellsAt (X : Cx) (σ : L2.St) (ob : Addr → Obj) : Prop := ∀ (i : Nat) (y : Str) (v : V) (c : Addr), X.N[i]? = some y → σ[i]? = some (some v) → X.env.cells.lookup y = some c → (X.env.kindOf y = some .cell ∨ X.env.kindOf y = some .free) → ∃ u, (ob c).data = .cell (some u) ∧ RelV v u
theorem cellsAt (I : Inv X pins σ H s) : CellsAt X σ (cellOb s.heap) := fun i y v c h1 h2 h3 h4 => by
  obtain ⟨m, _, hl⟩ := I.loc
  obtain ⟨u, r, q⟩ := hl i y v h1 h2 (h4.elim (fun k => .inr (.inl k)) fun k => .inr (.inr k))
  rcases q with ⟨k, _⟩ | ⟨_, c2, e, o, ho, hd⟩
  · rcases h4 with z | z <;> rw [z] at k <;> cases k
  · rw [h3] at e
    cases e
    refine ⟨u, ?_, r⟩
    have e2 : cellOb s.heap c = o := by
      unfold cellOb
      rw [ho] <;> rfl
    rw [e2]
    exact hd
/-- what is known when the cells are lent -/
structure LendOk (X : Cx) (σ : L2.St) (H : Hp) (ob : Addr → Obj) : Prop where
  c : ∀ c, isC X c → H c = none ∧ ∃ v, (ob c).data = .cell v
  at_ : CellsAt X σ ob
  inj : ∀ x y c, X.env.cells.lookup x = some c → X.env.cells.lookup y = some c → x = y
  has : ∀ x, (X.env.kindOf x = some .cell ∨ X.env.kindOf x = some .free) → ∃ c, X.env.cells.lookup x = some c
  len : σ.length = X.N.length
/-- a call of a def of the module, the cells of the frame lent -/
theorem run_lend {k : Nat} {f : Addr} {fd : FuncData} {ps : List Str} {sp : Spg} {us us' : List Value} {kw : List (Str × Value)} {vs : List V} {Q : VK} (F : FnG X.prog X.w X.K X.mg X.base k f fd ps sp) (hr : RoomG k X.A) (hfn : ∀ y, X.fn y = true) (hb : BindsTo s fd ⟨us', kw⟩ (ps.zip us)) (I : Inv X pins σ H s) (r : Vals vs us)
    (h : ∀ ob : Addr → Obj, LendOk X σ H ob → sp vs (lendH H (isC X) ob) (fun v H2 => Q v (delL H2 (isC X)))) :
    wpAny (model X.prog X.w) X.A (call (.ref f) us' kw) (EP X pins σ Q) X.xe s := by
  obtain ⟨e0, hc⟩ := env0_lend I hfn
  refine wpAny_call (codeAny_mono (F.run X.A X.stack s _ ⟨us', kw⟩ us vs _ hr e0 hb r (h _ ⟨fun c q => ⟨(hc c q).2.1, (hc c q).2.2⟩, cellsAt I, I.ok.inj, I.ok.has, I.len⟩)) fun r s' hq => ?_)
  cases r with
  | error e => exact (show False from hq).elim
  | ok fl =>
    cases fl with
    | ret u =>
      obtain ⟨v, H', os, bare, un, hok, rv, q⟩ := (show CE X.stack X.prog X.w _ s _ u s' from hq)
      refine I.after ⟨v, delL H' (isC X), os, bare, un_lend un hok (fun c q => (hc c q).1) (fun c q => (hc c q).2.1), hok_del hok (fun c q => ⟨_, _, un.frzs c _ _ (lend_in q)⟩), rv, q⟩
    | next => exact False.elim hq
    | brk => exact False.elim hq
    | cont => exact False.elim hq
theorem pe_callLend {k : Nat} {f : Addr} {fd : FuncData} {ps : List Str} {sp : Spg} {x : Str} {p pos : Pos} {e : Expr} {es : List Expr} {t : TA} (F : FnG X.prog X.w X.K X.mg X.base k f fd ps sp) (hr : RoomG k X.A) (hfn : ∀ y, X.fn y = true) (hg : Gl X x) (hm : X.mg x = some (.ref f)) (hk : PySem.W.keepIn X.K (.ref f) = true) (hb : Binds X.K fd ps [])
    (ha : PA X (e :: es) t) (hdb : (x == ("__debug__" : Str)) = false) (he : starEach (e :: es) X.env = (false, eval e X.env) :: starEach es X.env) (hpl : (backTo pos (starEach es X.env)).any (·.1) = false) :
    PE X (.Call (.Name x p) (e :: es) [] pos) (fun σ H Q => t σ H fun vs H1 => vs.length = ps.length ∧ ∀ ob : Addr → Obj, LendOk X σ H1 ob → sp vs (lendH H1 (isC X) ob) (fun v H2 => Q v (delL H2 (isC X)))) := by
  refine ⟨fun pins s σ H Q I h => ?_⟩
  refine wpAny_Call_Name_kw (ld_glob I hg hm ?_ hdb)
  refine PySem.W.callWith_K (h₀ := X.base) I.ok.mod.kin hk ?_ he hpl
  refine thn (ha.run pos pins s σ H _ I h) fun us s1 ⟨vs, H1, I1, r, hlen, q⟩ => ⟨I1.kIn, ?_⟩
  have hb1 := hb s1 us I1.kIn (by rw [List.append_nil, ← r.length]; exact hlen)
  rw [List.append_nil] at hb1
  exact run_lend F hr hfn hb1 I1 r q
end
/-! ### the lambda's body, run -/
abbrev loEnv (q : Str) (scope : Scope) (L f c' : Addr) (cl : List (Str × Addr)) : Env := PySem.W.envX q scope L f (.ref c') cl
def loCx (P : Program) (w : World) (K : PySem.W.Frag) (mg : Str → Option Value) (base : Heap) (N : List Str) (q : Str) (scope : Scope) (f c' : Addr) (cl : List (Str × Addr)) (A : Around) (outer : List Env) (s : Shared) (H : Hp) : Cx where
  prog := P
  w := w
  K := K
  mg := mg
  base := base
  A := A.deeper (loEnv q scope s.heap.objs.size f c' cl)
  N := N
  s_0 := s
  H_0 := H
  env := loEnv q scope s.heap.objs.size f c' cl
  outer := outer
  stack := loEnv q scope s.heap.objs.size f c' cl :: outer
  ex := []
  fn := fun _ => false
  calm := true
  pn := []
  xe := fun _ _ => False
/-- what a lambda asks of its names -/
def loB (scope : Scope) (cl : List (Str × Addr)) : Prop :=
  scope.kind = .function ∧ scope.isCoroutine = false ∧ scope.isGenerator = false ∧ (∀ y ∈ scope.names, y.2 ≠ .local ∧ y.2 ≠ .cell) ∧ (∀ y ∈ scope.names, y.2 = .free → ∃ c, cl.lookup y.1 = some c) ∧ (∀ x y c, cl.lookup x = some c → cl.lookup y = some c → x = y)
theorem lo_start {P : Program} {w : World} {K : PySem.W.Frag} {mg : Str → Option Value} {base : Heap} {N : List Str} {q : Str} {scope : Scope} {f c' : Addr} {cl : List (Str × Addr)} {A : Around} {outer : List Env} {s1 : Shared} {HZ : Hp} {h₁ : Heap} {tk : Nat} {σ : L2.St} {ob : Addr → Obj}
    (L : loB scope cl) (e0 : Env0 P w K mg base A outer s1 HZ) (hd : A.handled = none) (hns : h₁.Ns s1.heap.objs.size fun y => ([] : List (Str × Value)).reverse.lookup y) (kp : ∀ b o, s1.heap.get? b = some o → h₁.get? b = some o)
    (hcell : ∀ y c, cl.lookup y = some c → s1.heap.get? c = some (ob c) ∧ HZ c = none ∧ ∃ v, (ob c).data = .cell v) (hval : ∀ (i : Nat) (y : Str) (v : V) (c : Addr), N[i]? = some y → σ[i]? = some (some v) → cl.lookup y = some c → scope.names.lookup y = some .free → ∃ u, (ob c).data = .cell (some u) ∧ RelV v u) (hlen : σ.length = N.length) :
    Inv (loCx P w K mg base N q scope f c' cl A outer s1 HZ) [] σ HZ { s1 with heap := h₁, toks := tk } := by
  obtain ⟨L1, L2', L3, L4, L5, L6⟩ := L
  have noA : ∀ b : Addr, b ∉ (loCx P w K mg base N q scope f c' cl A outer s1 HZ).ex := fun b z => absurd (show b ∈ ([] : List Addr) from z) (by simp)
  refine ⟨⟨e0.mod, L1, rfl, rfl, Nat.le_refl _, fun y z c e1 e2 => L6 y z c e1 e2, fun y hy => ?_, fun y c z _ => ?_, fun _ => hd, Around.frames_deeper e0.frames, .inr ⟨rfl, rfl⟩, fun b z => absurd z (noA b), e0.bs, e0.bsz, fun b _ _ => noA b,
      fun b z => absurd z (noA b), e0.funs, e0.frf⟩,
    rfl, e0.bare, Un.kept kp, ⟨_, hns, fun i y v e1 e2 e3 => ?_⟩, fun y c e => ?_, e0.hok.fresh (Nat.le_refl _), fun y c e => (hcell y c e).2.1, fun q hq => absurd (show q ∈ ([] : List (Addr × Obj)) ++ [] from hq) (by simp), e0.hok.kept kp, hlen⟩
  · have hy : scope.names.lookup y = some .cell ∨ scope.names.lookup y = some .free := hy
    rcases hy with hy | hy
    · exact absurd rfl (L4 _ (PySem.mem_of_lookup hy)).2
    · exact L5 _ (PySem.mem_of_lookup hy) rfl
  · have z : false = true := z
    cases z
  · have e3 : Vis scope y := e3
    rcases e3 with k | k | k
    · exact absurd rfl (L4 _ (PySem.mem_of_lookup k)).1
    · exact absurd rfl (L4 _ (PySem.mem_of_lookup k)).2
    · obtain ⟨c, hc⟩ := L5 _ (PySem.mem_of_lookup k) rfl
      obtain ⟨u, h1, h2⟩ := hval i y v c e1 e2 hc k
      exact ⟨u, h2, .inr ⟨.inr k, c, hc, _, kp _ _ (hcell y c hc).1, h1⟩⟩
  · obtain ⟨h1, _, v, h2⟩ := hcell y c e
    exact ⟨v, _, kp _ _ h1, h2⟩
abbrev loFn (q : Str) (params : Arguments) (body : Expr) (scope : Scope) (cl : List (Str × Addr)) (pm : Value) (c' : Addr) (ctv : Value) : Obj := PySem.W.kla_obj "<lambda>" q params body scope cl pm c' ctv
/-- a(), a: a lambda whose cells are lent -/
theorem pe_clo {X : Cx} {k i : Nat} {a : Str} {N : List Str} {σ0 : L2.St} {cl : List (Str × Addr)} {f c' : Addr} {q : Str} {params : Arguments} {body : Expr} {scope : Scope} {pm ctv : Value} {ob : Addr → Obj} {p1 p2 : Pos} {tb : TE} (cs : Addr → Prop) (hr : RoomG (k + 1) X.A) (hc : X.calm = true) (L : loB scope cl) (hcl : ∀ y c, cl.lookup y = some c → cs c)
    (hbind : bindArgs (PySem.W.kla_fn "<lambda>" q params body scope cl pm (.ref c') ctv) ⟨[], []⟩ = pure []) (hlen : σ0.length = N.length)
    (hbody : ∀ (A : Around) (outer : List Env) (s : Shared) (H : Hp), RoomG k (A.deeper (loEnv q scope s.heap.objs.size f c' cl)) → PE (loCx X.prog X.w X.K X.mg X.base N q scope f c' cl A outer s H) body tb)
    (hN : X.N[i]? = some a) (hv : Vis X.env.scope a) (hd : (a == ("__debug__" : Str)) = false := by decide) (hcd : (a == ("__classdict__" : Str)) = false := by decide) :
    PE X (.Call (.Name a p1) [] [] p2) (fun σ H Q => σ[i]? = some (some (.ref f)) ∧ H f = some (.frz (loFn q params body scope cl pm c' ctv) anyO) ∧ H c' = some (LamX.CodeO c' q) ∧ (∀ c, cs c → H c = some (.frz (ob c) anyO) ∧ ∃ v, (ob c).data = .cell v) ∧
      (∀ (i : Nat) (y : Str) (v : V) (c : Addr), N[i]? = some y → σ0[i]? = some (some v) → cl.lookup y = some c → scope.names.lookup y = some .free → ∃ u, (ob c).data = .cell (some u) ∧ RelV v u) ∧ tb σ0 (delL H cs) (fun v H2 => (∀ c, cs c → H2 c = none) → Q v (lendH H2 cs ob))) := by
  refine ⟨fun pins sZ σZ HZ Q IZ h => ?_⟩
  obtain ⟨hs, hf, hco, hcs, hval, ht⟩ := h
  refine wpAny_Call_Name_kw (thn ((pe_var (pos := p1) (i := i) hN hv hd hcd).run pins sZ σZ HZ (fun v H1 => v = .ref f ∧ H1 = HZ) IZ ⟨.ref f, hs, rfl, rfl⟩) fun u s1 ⟨v, H1, I1, r1, q1⟩ => ?_)
  obtain ⟨ev, eH⟩ := q1
  subst ev
  rw [eH] at I1
  obtain rfl : u = Value.ref f := r1
  obtain ⟨of1, _⟩ := (show ObjOk X.prog X.w HZ s1.heap f (.frz (loFn q params body scope cl pm c' ctv) anyO) from I1.hok f _ hf)
  refine PySem.W.callWith_F0 ⟨_, _, _, _, of1⟩ ?_
  obtain ⟨⟨oc, vs, t, hoc, hdc, hvc⟩, _, _⟩ := I1.hok c' _ hco
  have cg : ∀ c, cs c → s1.heap.get? c = some (ob c) := fun c z => (show ObjOk X.prog X.w HZ s1.heap c (.frz (ob c) anyO) from I1.hok c _ (hcs c z).1).1
  have e0 := I1.env0
  have e1 : Env0 X.prog X.w X.K X.mg X.base X.A X.stack s1 (delL HZ cs) := by
    refine ⟨e0.frames, e0.mod, fun b o e => ⟨(e0.bs b o e).1, ?_⟩, e0.bsz, e0.funs, fun b hb => ?_, hok_del e0.hok (fun c z => ⟨_, _, (hcs c z).1⟩), e0.bare⟩
    · by_cases z : cs b
      · exact del_in z
      · rw [del_out z]
        exact (e0.bs b o e).2
    · by_cases z : cs b
      · exact del_in z
      · rw [del_out z]
        exact e0.frf b hb
  have cf : ∀ c, cs c → c ∉ frs X.stack := fun c z hm => by
    have := e0.frf c hm
    rw [(hcs c z).1] at this
    cases this
  have rc : codeAny (model X.prog X.w) X.A (.call (.ref f) ⟨[], []⟩) (CR (fun _ _ _ _ _ _ => False) X.stack X.prog X.w HZ s1 Q (fun _ _ _ => False)) s1 := by
    refine PySem.W.kla_callFunE hr.r.depth of1 rfl L.2.1 L.2.2.1 rfl ⟨c', oc, vs, t, rfl, hoc, hdc, hvc⟩ ?_
    rw [hbind]
    refine wpAny_pure (wpAny_newFunctionEnv (fun y hy => (L.2.2.2.1 y hy).2) (fun y hy => absurd hy (by simp)) (fun h₁ hns hsb => ⟨I1.nolimit.fresh _ hsb, ?_⟩) L.1)
    show codeAny _ _ (.expr body (loEnv q scope s1.heap.objs.size f c' cl)) _ _
    have kp : ∀ b o, s1.heap.get? b = some o → h₁.get? b = some o := fun b o e => hsb.extBut b o (Nat.ne_of_lt (Heap.lt_size e)) (Heap.get?_push_of_some _ e)
    have J : Inv (loCx X.prog X.w X.K X.mg X.base N q scope f c' cl X.A X.stack s1 (delL HZ cs)) [] σ0 (delL HZ cs) { s1 with heap := h₁, toks := s1.toks + ([] : List (Str × Value)).length } :=
      lo_start (ob := ob) L e1 (I1.ok.hd hc) hns kp (fun y c e => ⟨cg c (hcl y c e), del_in (hcl y c e), (hcs c (hcl y c e)).2⟩) hval hlen
    refine PySem.W.kla_codeExpr (wpAny_mono ((hbody _ _ s1 _ (hr.deeper _)).run [] _ _ _ _ J ht) (fun v s' hq => ?_) fun e s' hq => False.elim hq)
    obtain ⟨w', H', J', rv, q⟩ := hq
    obtain ⟨ub, key⟩ := un_back (cs := cs) (ob := ob) J'.base (fun c z => (hcs c z).1) cg cf
    exact ⟨w', lendH H' cs ob, J'.os, J'.bare, ub, hok_lend J'.hok (fun c z => (key c z).1) (fun c z => (key c z).2), rv, q fun c z => (key c z).2⟩
  refine wpAny_call (codeAny_mono rc fun r s' hq => ?_)
  cases r with
  | error e => exact (show False from hq).elim
  | ok fl =>
    cases fl with
    | ret u => exact I1.after hq
    | next => exact False.elim hq
    | brk => exact False.elim hq
    | cont => exact False.elim hq
end Pv
set_option Elab.async false
set_option linter.all false
set_option maxRecDepth 100000
set_option maxHeartbeats 4000000
namespace Pv
open PySem PySem.Spec PyProof.Rows L2
/-! ### a lambda made: the function object is known from then on -/
theorem pe_lam {X : Cx} {T : List (Addr × Str)} {c P : Addr} {params : Arguments} {body : Expr} {scope : Scope} {pos : Pos} (TB : LamX.TabB X.base X.mg c P) (hcode : X.env.code = .ref c) (hm : (P, X.env.qual ++ "<lambda>") ∈ T) (hu : ∀ p ∈ T, p.1 = P → p.2 = X.env.qual ++ "<lambda>")
    (hdef : defaultsOf params X.env = ([], [])) (hk : ∀ y ∈ scope.names, y.2 = .free → X.env.kindOf y.1 = some .cell ∨ X.env.kindOf y.1 = some .free) :
    PE X (.Lambda params body scope pos) (fun σ H Q => LamX.Tabs T H ∧ ∀ (f c' : Addr) (pm ctv : Value) (H1 : Hp), (∀ b o, b ≠ P → H b = some o → H1 b = some o) → H1 P ≠ none → LamX.Tabs T H1 → H1 f = none → H1 c' = some (LamX.CodeO c' (X.env.qual ++ "<lambda>")) →
      Q (.ref f) (upd H1 f (.frz (loFn (X.env.qual ++ "<lambda>") params body scope (cloFrom X.env.cells scope.names []) pm c' ctv) anyO))) := by
  refine ⟨fun pins s σ H Q I ⟨hT, h⟩ => ?_⟩
  have hfree : ∀ y ∈ scope.names, y.2 = .free → ∃ c, X.env.cells.lookup y.1 = some c := fun y hy e => I.ok.has _ (hk y hy e)
  obtain ⟨ps, tP, tr, am⟩ := hT _ hm
  have bP : s.heap.BuiltinsAt X.mg P := TB.bm.keeps I.bk
  have tab : s.heap.get? P = some { cls := .none, data := .fields ps } := I.hok P _ tP
  -- the function object behind a heap that bears all else
  have fin : ∀ {H1 : Hp} {h' : Heap} {tk : Nat} {c' : Addr} {pm ctv : Value}, Inv X pins σ H1 { s with heap := h', toks := tk } → (∀ b o, b ≠ P → H b = some o → H1 b = some o) → H1 P ≠ none → LamX.Tabs T H1 → H1 c' = some (LamX.CodeO c' (X.env.qual ++ "<lambda>")) →
      EP X pins σ Q (.ref h'.objs.size) { s with heap := h'.push (loFn (X.env.qual ++ "<lambda>") params body scope (cloFrom X.env.cells scope.names []) pm c' ctv), toks := tk } := fun {H1 h' tk c' pm ctv} I1 q1 q2 q3 q4 => by
    have fresh : H1 h'.objs.size = none := I1.hok.fresh (Nat.le_refl _)
    have at_ : (h'.push (loFn (X.env.qual ++ "<lambda>") params body scope (cloFrom X.env.cells scope.names []) pm c' ctv)).get? h'.objs.size = some (loFn (X.env.qual ++ "<lambda>") params body scope (cloFrom X.env.cells scope.names []) pm c' ctv) := Heap.get?_push_size _ rfl
    exact ⟨.ref h'.objs.size, _, I1.laid (t' := tk) (o := .frz (loFn (X.env.qual ++ "<lambda>") params body scope (cloFrom X.env.cells scope.names []) pm c' ctv) anyO) (fun b u e => Heap.get?_push_of_some _ e) (Nat.le_refl _) ⟨at_, True.intro, ⟨_, at_⟩, fun _ _ _ _ => True.intro⟩, rfl, h _ _ _ _ _ q1 q2 q3 fresh q4⟩
  refine PySem.W.kla_eval hdef ?_
  cases hc : codeAmong pos ps.toList with
  | some cv =>
    obtain ⟨c', rfl, hco⟩ := am pos cv hc
    refine PySem.W.kla_makeFunctionHit (mg := X.mg) (c := c) (P := P) (ps := ps) (closure_ok hfree) I.ok.glob (I.mod.glob.keeps I.bk) hcode (TB.code.keeps I.bk) tab tr hc bP fun ctv h' tk hx hsz => ?_
    exact fin (I.kept hx) (fun _ _ _ e => e) (by rw [tP]; exact fun z => nomatch z) hT hco
  | none =>
    refine PySem.W.kla_makeFunction (mg := X.mg) (c := c) (P := P) (ps := ps) (closure_ok hfree) I.ok.glob (I.mod.glob.keeps I.bk) hcode (TB.code.keeps I.bk) tab tr hc TB.gP bP fun c' ctv h' tk hx hge hlt hrec htb => ?_
    obtain ⟨c2, oc, vs, t, e2, hoc, hd, hv⟩ := hrec
    cases e2
    have nC : H c' = none := I.hok.fresh hge
    have nPc : P ≠ c' := ne_of_none tP nC
    refine fin (LamX.inv_table (t' := tk) (more := #[rawInt pos.line, rawInt pos.col, .ref c']) I tP hx htb hge ⟨oc, vs, t, hoc, hd, hv⟩) (fun b o hb e => ?_) ?_ (fun p hp => ?_) upd_same
    · rw [upd_ne (ne_of_none e nC), upd_ne hb]
      exact e
    · rw [upd_ne nPc, upd_same]
      exact fun z => nomatch z
    · have keepC : ∀ d, H d = some (LamX.CodeO d p.2) → upd (upd H P (.tbl (ps ++ #[rawInt pos.line, rawInt pos.col, .ref c']))) c' (LamX.CodeO c' (X.env.qual ++ "<lambda>")) d = some (LamX.CodeO d p.2) := fun d e => by
        rw [upd_ne (ne_of_none e nC), upd_ne fun z => LamX.codeO_ne ps (Option.some.inj (e.symm.trans (by rw [z]; exact tP)))]
        exact e
      by_cases hb : p.1 = P
      · have eq2 := hu p hp hb
        have el : (ps ++ #[rawInt pos.line, rawInt pos.col, .ref c']).toList = ps.toList ++ [rawInt pos.line, rawInt pos.col, .ref c'] := by simp
        refine ⟨ps ++ #[rawInt pos.line, rawInt pos.col, .ref c'], ?_, by rw [el]; exact PySem.TriplesOk_snoc _ _ _ _ tr, fun p' cv hcv => ?_⟩
        · rw [hb, upd_ne nPc, upd_same]
        · rw [el] at hcv
          rcases LamX.among_app _ tr hcv with z | z
          · obtain ⟨d, e1, e3⟩ := am p' cv z
            rw [eq2] at keepC ⊢
            exact ⟨d, e1, keepC d e3⟩
          · rw [eq2]
            exact ⟨c', z, upd_same⟩
      · obtain ⟨ps', a1, a2, a3⟩ := hT p hp
        refine ⟨ps', by rw [upd_ne (ne_of_none a1 nC), upd_ne hb]; exact a1, a2, fun p' cv hcv => ?_⟩
        obtain ⟨d, e1, e3⟩ := a3 p' cv hcv
        exact ⟨d, e1, keepC d e3⟩
end Pv
set_option Elab.async false
set_option linter.all false
set_option maxRecDepth 100000
set_option maxHeartbeats 4000000
namespace Pv
open PySem PySem.Spec PyProof.Rows L2
/-! ### the law's mode: the bag, the tables -/
structure Bag where
  cells : List Int
  hi : Int
  mix : Int
structure BagOk (b : Bag) : Prop where
  len : b.cells.length ≤ 63
  cells : ∀ c ∈ b.cells, 0 ≤ c ∧ c < 10 ^ 64
  hi : 0 ≤ b.hi ∧ b.hi < 10 ^ 64
  mix : 0 ≤ b.mix ∧ b.mix < 2147483647
structure BagR (B C : Addr) (T : List (Addr × Str)) (b : Bag) (W : Wd) : Prop where
  fB : W.F B = none
  fC : W.F C = none
  hB : W.H B = some (.lst [.ref C, .int b.hi, .int b.mix])
  hC : W.H C = some (.lst (b.cells.map .int))
  ne : B ≠ C
  ok : BagOk b
  tab : LamX.Tabs T W.H
  ft : ∀ p ∈ T, W.F p.1 = none
theorem tabs_put {T : List (Addr × Str)} {H : Hp} {l : Addr} {o u : HO} (t : LamX.Tabs T H) (h : H l = some o) (ho : isOwn o = true) : LamX.Tabs T (upd H l u) := fun p hp => by
  obtain ⟨ps, a1, a2, a3⟩ := t p hp
  have n1 : p.1 ≠ l := ne_of a1 h (fun z => by rw [← z] at ho; cases ho)
  refine ⟨ps, by rw [upd_ne n1]; exact a1, a2, fun pos cv hc => ?_⟩
  obtain ⟨d, e1, e2⟩ := a3 pos cv hc
  have n2 : d ≠ l := ne_of e2 h (fun z => by rw [← z] at ho; cases ho)
  exact ⟨d, e1, by rw [upd_ne n2]; exact e2⟩
def lawM (B C : Addr) (T : List (Addr × Str)) : Mode where
  ι := Bag
  M := fun a => a = B ∨ a = C ∨ ∃ p ∈ T, p.1 = a
  R := BagR B C T
  st := fun i W V r h hf => ⟨hf B (.inl rfl), hf C (.inr (.inl rfl)), h _ _ r.hB, h _ _ r.hC, r.ne, r.ok, r.tab.ext h, fun p hp => hf p.1 (.inr (.inr ⟨p, hp, rfl⟩))⟩
  al := fun i W r a ha => by
    rcases ha with rfl | rfl | ⟨p, hp, rfl⟩
    · exact ⟨(by rw [r.hB]; exact fun z => nomatch z), r.fB⟩
    · exact ⟨(by rw [r.hC]; exact fun z => nomatch z), r.fC⟩
    · obtain ⟨ps, h, _⟩ := r.tab p hp
      exact ⟨(by rw [h]; exact fun z => nomatch z), r.ft p hp⟩
  pt := fun i W l o u h r hm hl ho => by
    have n1 : B ≠ l := fun z => hm (.inl z.symm)
    have n2 : C ≠ l := fun z => hm (.inr (.inl z.symm))
    exact ⟨r.fB, r.fC, by show upd W.H l u B = _; rw [upd_ne n1]; exact r.hB, by show upd W.H l u C = _; rw [upd_ne n2]; exact r.hC, r.ne, r.ok, tabs_put r.tab hl ho, r.ft⟩
/-! ### lambdas as expressions -/
/-- how a family's def stands to its table -/
structure LamY (Y : Fam) (T : List (Addr × Str)) (q : Str) (P : Addr) : Prop where
  tb : ∃ c, LamX.TabB Y.base Y.mg c P ∧ ∀ a, (Y.X a).env.code = .ref c
  qn : ∀ a, (Y.X a).env.qual ++ "<lambda>" = q
  m : (P, q) ∈ T
  u : ∀ p ∈ T, p.1 = P → p.2 = q
  one : ∀ a b : Y.α, a = b
  fn : ∀ a y, (Y.X a).fn y = true
def lamB (sc scope : Scope) : Bool := decide (scope.kind = .function) && !scope.isCoroutine && !scope.isGenerator && scope.names.all fun y => decide (y.2 ≠ .local) && decide (y.2 ≠ .cell) && (decide (y.2 ≠ .free) || decide (sc.names.lookup y.1 = some .cell) || decide (sc.names.lookup y.1 = some .free))
structure LamOk (sc scope : Scope) : Prop where
  kind : scope.kind = .function
  co : scope.isCoroutine = false
  gen : scope.isGenerator = false
  own : ∀ y ∈ scope.names, y.2 ≠ .local ∧ y.2 ≠ .cell
  free : ∀ y ∈ scope.names, y.2 = .free → sc.names.lookup y.1 = some .cell ∨ sc.names.lookup y.1 = some .free
theorem lamOk_of {sc scope : Scope} (h : lamB sc scope = true) : LamOk sc scope := by
  unfold lamB at h
  simp only [Bool.and_eq_true, Bool.or_eq_true, Bool.not_eq_true', decide_eq_true_eq, List.all_eq_true] at h
  obtain ⟨⟨⟨h1, h2⟩, h3⟩, h4⟩ := h
  refine ⟨h1, h2, h3, fun y hy => (h4 y hy).1, fun y hy e => ?_⟩
  rcases (h4 y hy).2 with (z | z) | z
  · exact absurd e z
  · exact .inl z
  · exact .inr z
section
variable {B C : Addr} {T : List (Addr × Str)} {Y : Fam} {σ : L2.St} {W : Wd} {i j k : Bag} {q : Str} {P : Addr} {params : Arguments} {body : Expr} {scope : Scope} {pos : Pos}
def madeAt (cl : List (Str × Addr)) (q : Str) (params : Arguments) (body : Expr) (scope : Scope) (f c' : Addr) (pm ctv : Value) (W : Wd) : Prop := W.F f = some (.frz (loFn q params body scope cl pm c' ctv) anyO) ∧ W.H c' = some (LamX.CodeO c' q)
theorem madeAt.le {cl : List (Str × Addr)} {f c' : Addr} {pm ctv : Value} {W V : Wd} {M : Addr → Prop} (h : madeAt cl q params body scope f c' pm ctv W) (l : Le M W V) (hm : ¬ M c') : madeAt cl q params body scope f c' pm ctv V := ⟨l.f _ _ h.1, l.h _ _ hm h.2⟩
theorem code_notM {b : Bag} {W : Wd} {c' : Addr} (r : BagR B C T b W) (h : W.H c' = some (LamX.CodeO c' q)) : ¬ (lawM B C T).M c' := fun z => by
  rcases z with rfl | rfl | ⟨p, hp, rfl⟩
  · rw [r.hB] at h
    cases h
  · rw [r.hC] at h
    cases h
  · obtain ⟨ps, e, _⟩ := r.tab p hp
    rw [e] at h
    cases h
theorem eg_lam (a0 : Y.α) (L : LamY Y T q P) (hk : lamB Y.sc scope = true := by rfl) (hdef : ∀ a, defaultsOf params (Y.X a).env = ([], []) := by intro _; rfl) :
    EG (lawM B C T) Y σ W i (.Lambda params body scope pos) (fun _ v V => ∃ f c' pm ctv, v = .ref f ∧ madeAt (cloFrom (Y.X a0).env.cells scope.names []) q params body scope f c' pm ctv V ∧ ¬ (lawM B C T).M c') i := fun U h1 r Q z => by
  obtain ⟨c, TB, hcode⟩ := L.tb
  have ok := lamOk_of hk
  refine ⟨fun σ H Q => LamX.Tabs T H ∧ ∀ (f c' : Addr) (pm ctv : Value) (H1 : Hp), (∀ b o, b ≠ P → H b = some o → H1 b = some o) → H1 P ≠ none → LamX.Tabs T H1 → H1 f = none → H1 c' = some (LamX.CodeO c' q) →
      Q (.ref f) (upd H1 f (.frz (loFn q params body scope (cloFrom (Y.X a0).env.cells scope.names []) pm c' ctv) anyO)), fun a => ?_, r.tab, fun f c' pm ctv H1 q1 q2 q3 q4 q5 => ?_⟩
  · have e := L.one a a0
    subst e
    have h := pe_lam (X := Y.X a) (T := T) (params := params) (body := body) (scope := scope) (pos := pos) (by rw [Y.hbase, Y.hmg]; exact TB) (hcode a) (by rw [L.qn]; exact L.m) (by rw [L.qn]; exact L.u) (hdef a) (fun y hy hf => by
      show (Y.X a).env.scope.names.lookup y.1 = _ ∨ (Y.X a).env.scope.names.lookup y.1 = _
      rw [Y.hsc]
      exact ok.free y hy hf)
    rw [L.qn] at h
    exact h
  · have fP : U.F P = none := r.ft _ L.m
    have nP : ∀ b o, U.F b = some o → b ≠ P := fun b o e => ne_of_none e fP
    have h1none : ∀ b, U.H b ≠ none → H1 b ≠ none := fun b hb => by
      by_cases hp : b = P
      · rw [hp]
        exact q2
      · cases e : U.H b with
        | none => exact absurd e hb
        | some o =>
          rw [q1 b o hp e]
          exact fun z => nomatch z
    have nf : ∀ b, U.H b ≠ none → b ≠ f := fun b hb e => h1none b hb (e ▸ q4)
    have kB : H1 B = some (.lst [.ref C, .int i.hi, .int i.mix]) := q1 B _ (fun z => by
      obtain ⟨ps, e, _⟩ := r.tab _ L.m
      have e2 := r.hB
      rw [z, e] at e2
      cases e2) r.hB
    have kC : H1 C = some (.lst (i.cells.map .int)) := q1 C _ (fun z => by
      obtain ⟨ps, e, _⟩ := r.tab _ L.m
      have e2 := r.hC
      rw [z, e] at e2
      cases e2) r.hC
    have fB : B ≠ f := ne_of_none kB q4
    have fC : C ≠ f := ne_of_none kC q4
    have hFf : U.F f = none := by
      cases e : U.F f with
      | none => rfl
      | some o => exact absurd rfl (nf f (by rw [U.sub f o e]; exact fun z => nomatch z))
    let V : Wd := ⟨upd U.F f (.frz (loFn q params body scope (cloFrom (Y.X a0).env.cells scope.names []) pm c' ctv) anyO), upd H1 f (.frz (loFn q params body scope (cloFrom (Y.X a0).env.cells scope.names []) pm c' ctv) anyO), fun a o e => by
      by_cases z : a = f
      · subst z
        rw [upd_same] at e ⊢
        exact e
      · rw [upd_ne z] at e ⊢
        exact q1 a o (nP a o e) (U.sub a o e)⟩
    have hR : BagR B C T i V := by
      refine ⟨?_, ?_, ?_, ?_, r.ne, r.ok, q3.ext (upd_none q4), fun p hp => ?_⟩
      · show upd U.F f _ B = none
        rw [upd_ne fB]
        exact r.fB
      · show upd U.F f _ C = none
        rw [upd_ne fC]
        exact r.fC
      · show upd H1 f _ B = _
        rw [upd_ne fB]
        exact kB
      · show upd H1 f _ C = _
        rw [upd_ne fC]
        exact kC
      · obtain ⟨ps, e, _⟩ := r.tab p hp
        show upd U.F f _ p.1 = none
        rw [upd_ne (nf p.1 (by rw [e]; exact fun z => nomatch z))]
        exact r.ft p hp
    refine z (.ref f) V ⟨upd_none hFf, fun a o hm e => ?_, fun a e hn => ?_, fun a hn => ?_⟩ hR ⟨f, c', pm, ctv, rfl, ⟨upd_same, upd_none q4 _ _ q5⟩, code_notM hR (upd_none q4 _ _ q5)⟩
    · show upd H1 f _ a = some o
      rw [upd_ne (nf a (by rw [e]; exact fun z => nomatch z))]
      exact q1 a o (fun z => hm (.inr (.inr ⟨_, L.m, z.symm⟩))) e
    · show upd U.F f _ a = none
      rw [upd_ne (nf a hn)]
      exact e
    · exact upd_some_ne (h1none a hn)
end
/-! ### the family of a lambda's body -/
def loFam (P : Program) (w : World) (K : PySem.W.Frag) (mg : Str → Option Value) (base : Heap) (N : List Str) (nd : N.Nodup) (q : Str) (scope : Scope) (f c' : Addr) (cl : List (Str × Addr)) (k : Nat) : Fam where
  α := { t : Around × List Env × Shared × Hp // RoomG k (t.1.deeper (loEnv q scope t.2.2.1.heap.objs.size f c' cl)) }
  X := fun t => loCx P w K mg base N q scope f c' cl t.1.1 t.1.2.1 t.1.2.2.1 t.1.2.2.2
  P := P
  w := w
  K := K
  mg := mg
  base := base
  N := N
  sc := scope
  k := k
  hP := fun _ => rfl
  hw := fun _ => rfl
  hK := fun _ => rfl
  hmg := fun _ => rfl
  hbase := fun _ => rfl
  hN := fun _ => rfl
  hsc := fun _ => rfl
  hc := fun _ => rfl
  hr := fun t => t.2
  nd := nd
/-- the frozen part alone -/
def fw (F : Hp) : Wd := ⟨F, F, fun _ _ h => h⟩
theorem le_fw {F : Hp} {T : Wd} (h : ∀ a o, F a = some o → T.F a = some o) : Le M0 (fw F) T :=
  ⟨h, fun a o _ e => T.sub a o (h a o e), fun a e k => absurd e k, fun a k => by
    cases e : F a with
    | none => exact absurd e k
    | some o =>
      rw [T.sub a o (h a o e)]
      exact fun z => nomatch z⟩
/-! ### a callable that gives x -/
def CloP (P : Program) (w : World) (K : PySem.W.Frag) (mg : Str → Option Value) (base : Heap) (k : Nat) (W : Wd) (f : Addr) (x : Sv) : Prop :=
  ∀ (X : Cx) (i : Nat) (a : Str) (p1 p2 : Pos), X.prog = P → X.w = w → X.K = K → X.mg = mg → X.base = base → X.calm = true → RoomG k X.A → X.N[i]? = some a → Vis X.env.scope a → (a == ("__debug__" : Str)) = false → (a == ("__classdict__" : Str)) = false →
    PE X (.Call (.Name a p1) [] [] p2) (fun σ H Q => σ[i]? = some (some (.ref f)) ∧ ∃ T : Wd, T.H = H ∧ Le M0 W T ∧ ∀ v T', Le M0 T T' → Is K T'.F v x → Q v T'.H)
theorem CloP.le {P : Program} {w : World} {K : PySem.W.Frag} {mg : Str → Option Value} {base : Heap} {k : Nat} {W W' : Wd} {f : Addr} {x : Sv} (h : CloP P w K mg base k W f x) (l : Le M0 W W') : CloP P w K mg base k W' f x := fun X i a p1 p2 e1 e2 e3 e4 e5 e6 e7 e8 e9 e10 e11 =>
  ⟨fun pins s σ H Q I ⟨q1, T, q2, q3, q4⟩ => (h X i a p1 p2 e1 e2 e3 e4 e5 e6 e7 e8 e9 e10 e11).run pins s σ H Q I ⟨q1, T, q2, l.trans q3, q4⟩⟩
theorem clo_of {P : Program} {w : World} {K : PySem.W.Frag} {mg : Str → Option Value} {base : Heap} {k : Nat} {W : Wd} {f c' : Addr} {x : Sv} {N : List Str} {nd : N.Nodup} {σ0 : L2.St} {cl : List (Str × Addr)} {q : Str} {params : Arguments} {body : Expr} {scope : Scope} {pm ctv : Value} {ob : Addr → Obj} {F0 : Hp} (cs : Addr → Prop)
    (L : loB scope cl) (hcl : ∀ y c, cl.lookup y = some c → cs c) (hbind : bindArgs (PySem.W.kla_fn "<lambda>" q params body scope cl pm (.ref c') ctv) ⟨[], []⟩ = pure []) (hlen : σ0.length = N.length) (hm : madeAt cl q params body scope f c' pm ctv W)
    (hcs : ∀ c, cs c → W.F c = some (.frz (ob c) anyO) ∧ ∃ v, (ob c).data = .cell v) (hval : ∀ (i : Nat) (y : Str) (v : V) (c : Addr), N[i]? = some y → σ0[i]? = some (some v) → cl.lookup y = some c → scope.names.lookup y = some .free → ∃ u, (ob c).data = .cell (some u) ∧ RelV v u)
    (hF : ∀ a o, F0 a = some o → ¬ cs a ∧ W.F a = some o) (hb : E m0 (loFam P w K mg base N nd q scope f c' cl k) σ0 (fw F0) () body x ()) : CloP P w K mg base (k + 1) W f x := by
  intro X i a p1 p2 e1 e2 e3 e4 e5 hc hr hN hv hd hcd
  subst e1 e2 e3 e4 e5
  have h := pe_clo (X := X) (ob := ob) (pm := pm) (ctv := ctv) (p1 := p1) (p2 := p2) (params := params) cs hr hc L hcl hbind hlen (fun A outer s H hr2 => wE_ok (Y := loFam X.prog X.w X.K X.mg X.base N nd q scope f c' cl k) (e := body) ⟨(A, outer, s, H), hr2⟩) hN hv hd hcd
  refine ⟨fun pins s σ H Q I ⟨q1, T, q2, q3, q4⟩ => h.run pins s σ H Q I ?_⟩
  subst q2
  have tc : ∀ c, cs c → T.F c = some (.frz (ob c) anyO) := fun c z => q3.f _ _ (hcs c z).1
  refine ⟨q1, T.sub _ _ (q3.f _ _ hm.1), q3.h _ _ (fun z => z) hm.2, fun c z => ⟨T.sub _ _ (tc c z), (hcs c z).2⟩, hval, ?_⟩
  let U : Wd := ⟨delL T.F cs, delL T.H cs, fun a o e => by
    by_cases z : cs a
    · rw [del_in z] at e
      cases e
    · rw [del_out z] at e ⊢
      exact T.sub a o e⟩
  refine hb U (le_fw fun a o e => ?_) True.intro _ fun v T2 l2 _ p2 hnone => ?_
  · show delL T.F cs a = some o
    rw [del_out (hF a o e).1]
    exact q3.f _ _ (hF a o e).2
  · have fnone : ∀ c, cs c → T2.F c = none := fun c z => T2.fnone (hnone c z)
    refine q4 v ⟨lendH T2.F cs ob, lendH T2.H cs ob, fun a o e => ?_⟩ ⟨fun a o e => ?_, fun a o _ e => ?_, fun a e hn => ?_, fun a hn => ?_⟩ (p2.mono fun a o e => ?_)
    · by_cases z : cs a
      · rw [lend_in z] at e ⊢
        exact e
      · rw [lend_out z] at e ⊢
        exact T2.sub a o e
    · show lendH T2.F cs ob a = some o
      by_cases z : cs a
      · rw [lend_in z, ← tc a z, e]
      · rw [lend_out z]
        exact l2.f a o (by show delL T.F cs a = some o; rw [del_out z]; exact e)
    · show lendH T2.H cs ob a = some o
      by_cases z : cs a
      · rw [lend_in z, ← T.sub _ _ (tc a z), e]
      · rw [lend_out z]
        exact l2.h a o (fun z => z) (by show delL T.H cs a = some o; rw [del_out z]; exact e)
    · show lendH T2.F cs ob a = none
      have z : ¬ cs a := fun z => by
        rw [tc a z] at e
        cases e
      rw [lend_out z]
      exact l2.n a (by show delL T.F cs a = none; rw [del_out z]; exact e) (by show delL T.H cs a ≠ none; rw [del_out z]; exact hn)
    · show lendH T2.H cs ob a ≠ none
      by_cases z : cs a
      · rw [lend_in z]
        exact fun z => nomatch z
      · rw [lend_out z]
        exact l2.k a (by show delL T.H cs a ≠ none; rw [del_out z]; exact hn)
    · show lendH T2.F cs ob a = some o
      rw [lend_out fun z => by
        rw [fnone a z] at e
        cases e]
      exact e
end Pv
set_option Elab.async false
set_option linter.all false
set_option maxRecDepth 100000
set_option maxHeartbeats 4000000
namespace Pv
open PySem PySem.Spec PyProof.Rows L2
/-! ### repr of a list or a tuple -/
def rReprD (K : PySem.W.Frag) : CRd := fun xs H Q => ∃ a d, xs = [.ref a] ∧ Dp K H (.ref a) d ∧ d.showable = true ∧ d.hasDict = false ∧ d.depth ≤ 64 ∧ d.shown.length ≤ sizeLine ∧ Q (.str d.shown) H
theorem call_reprD {X : Cx} (hg : X.A.guards = some []) (hu : X.A.units + 66 < cLine) : CallR X (.builtin "repr") (rReprD X.K) := by
  intro pins s σ H xs us Q I r h
  obtain ⟨a, d, rfl, hd, h1, h2, h3, h4, q⟩ := h
  obtain ⟨u, rfl, rx⟩ := vals1 r
  cases rx
  obtain ⟨as, rd⟩ := Dp.reads I d (.ref a) (.ref a) hd rfl
  exact PySem.repr_of_reads' rd h1 (fun z => by rw [h2] at z; cases z) hg (by omega) (fun _ _ e => e) (fun h' u tk k => ⟨.str d.shown, H, I.kept k, ⟨u, rfl⟩, q⟩) h4
section
variable {m : Mode} {Y : Fam} {σ : L2.St} {W W' : Wd} {i j k l : m.ι} {e a b c : Expr} {es : List Expr} {rest body : List Stmt} {pos p p' : Pos} {x y z : Sv} {d d' : PD} {ds : List PD} {u v : Bool} {D : Ends} {s : Str} {n : Nat}
theorem e_repr (B : BI Y "repr" (.builtin "repr")) (ha : E m Y σ W i e (.d (.list ds)) j) (h1 : (PyData.list ds).showable = true) (h2 : (PyData.list ds).hasDict = false) (h3 : (PyData.list ds).depth ≤ 64) (h4 : (PyData.list ds).shown.length ≤ sizeLine)
    (he : ∀ a, starEach [e] (Y.X a).env = (false, eval e (Y.X a).env) :: starEach [] (Y.X a).env := by intro _; rfl) :
    E m Y σ W i (.Call (.Name "repr" p) [e] [] pos) (.d (.str (PyData.list ds).shown)) j := e_cb B (fun a => by
      have h := call_reprD (X := Y.X a) (Y.hr a).g (by have := (Y.hr a).r.un; omega)
      rw [Y.hK a] at h
      exact h) (ea_cons ha ea_nil he) (fun T vs Q h z => by
  obtain ⟨v, rfl, h5⟩ := h.inv1
  obtain ⟨q, us, rfl, e2, e3⟩ := Is.lst h5
  exact ⟨q, _, rfl, dp_sub T (Dp.lst e2 e3), h1, h2, h3, h4, z _ T (Le.refl T) (Dp.str _)⟩) (he := he)
/-- [..] * n -/
theorem el_mulL {g : Int} (ha : EL m Y σ W i a ds j) (hb : E m Y σ W j b (.d (.int g)) k) (hg : 0 ≤ g ∧ g ≤ 1000) (hl : ds.length ≤ 1000) : EL m Y σ W i (.BinOp a .Mult b pos) (List.replicate g.toNat ds).flatten k := fun U l r Q z =>
  ⟨tOp rRep _ _, fun t => pe_op op_rep (wE_ok t) (wE_ok t), ha U l r _ fun v1 T1 l1 r1 ⟨q, vs, e1, e2, e3, e4, e5⟩ => hb T1 (l.trans l1) r1 _ fun v2 T2 l2 r2 p2 => by
    have h4 : T2.H q = some (.lst vs) := l2.h q _ (m.nm r e2) e4
    have hle : vs.length * g.toNat ≤ 1000 * 1000 := Nat.mul_le_mul (by rw [e5.len]; exact hl) (by omega)
    refine ⟨q, g, vs, e1, p2.int, h4, by omega, by omega, Nat.le_trans hle (by decide), fun p hp => ?_⟩
    exact z (.ref p) (T2.own p _ hp) ((l1.trans l2).trans (Le.own hp)) (m.le0 r2 (Le.own hp)) ⟨p, _, rfl, (l1.trans l2).back hp, T2.fnone hp, upd_same, DpAll.rep (e5.mono l2.f) _⟩⟩
/-- try whose body lets nothing out -/
theorem s_try0 {h0 : ExceptHandler} {hs : List ExceptHandler} (h : wSs Y body { D with nx := fun σ' H' => wSs Y rest D σ' H' } σ W.H) (hx : ∀ a, (Y.X a).nox = Y.X a := by intro _; rfl) : wSs Y (.Try body (h0 :: hs) [] [] p :: rest) D σ W.H :=
  ⟨tSeq (wSs Y body) (wSs Y rest), fun a => pss_cons (ps_try_thru0 (by rw [hx a]; exact wSs_ok (ss := body) a)) (wSs_ok a), h⟩
/-- a call by the promise's own words -/
theorem eg_callS {q : Nat} {st : Stmt} {ps : List Str} {sp : Spg} {P : Wd → List V → Wd → Prop} {P' : Wd → V → Wd → Prop} (C : Cl Y.P Y.w Y.K Y.mg Y.base q s st ps sp) (ha : EAG m Y σ W i (e :: es) P j)
    (hsp : ∀ U vs T, Le m.M W U → Le m.M U T → m.R j T → P U vs T → ∀ Q : VK, (∀ v T', Le M0 T T' → P' U v T' → Q v T'.H) → sp vs T.H Q) (hq : q ≤ Y.k := by exact Nat.le_of_ble_eq_true rfl) (hg : Gb Y s := by rfl) (hdb : (s == ("__debug__" : Str)) = false := by decide)
    (he : ∀ a, starEach (e :: es) (Y.X a).env = (false, eval e (Y.X a).env) :: starEach es (Y.X a).env := by intro _; rfl) (hpl : ∀ a, (backTo pos (starEach es (Y.X a).env)).any (·.1) = false := by intro _; rfl) :
    EG m Y σ W i (.Call (.Name s p) (e :: es) [] pos) P' j := by
  obtain ⟨f, fd, h1, h2, h3⟩ := C.ex
  exact fun U l r Q z => ⟨fun σ H Q => wA Y (e :: es) σ H fun vs H1 => sp vs H1 Q, fun a => pe_callG (by rw [Y.hP, Y.hw, Y.hK, Y.hmg, Y.hbase]; exact h3) ((Y.hr a).mono hq) (hg.gl a) (by rw [Y.hmg]; exact h1) (by rw [Y.hK]; exact h2.kp) (by rw [Y.hK]; exact h2.bindsN C.b) (wA_ok a) hdb (he a) (hpl a),
    ha U l r _ fun vs T l1 r1 p1 => hsp U vs T l l1 r1 p1 Q fun v T' l2 p2 => z v T' (l1.trans l2.of0) (m.le0 r1 l2) p2⟩
end
section
variable {Y : Fam} {σ : L2.St} {W : Wd} {i : m0.ι} {x : Sv} {s : Str} {p1 p2 : Pos}
/-- call(), a callable that gives x -/
theorem e_clo {k : Nat} {f : Addr} (n : Nat) (h : CloP Y.P Y.w Y.K Y.mg Y.base k W f x) (hk : k ≤ Y.k := by exact Nat.le_of_ble_eq_true rfl) (hN : Y.N[n]? = some s := by rfl) (hv : visB Y.sc s = true := by rfl) (hs : σ[n]? = some (some (.ref f)) := by rfl) (hd : (s == ("__debug__" : Str)) = false := by decide) (hcd : (s == ("__classdict__" : Str)) = false := by decide) :
    E m0 Y σ W i (.Call (.Name s p1) [] [] p2) x i := fun U l r Q z =>
  ⟨fun σ H Q => σ[n]? = some (some (.ref f)) ∧ ∃ T : Wd, T.H = H ∧ Le M0 W T ∧ ∀ v T', Le M0 T T' → Is Y.K T'.F v x → Q v T'.H, fun a => h (Y.X a) n s p1 p2 (Y.hP a) (Y.hw a) (Y.hK a) (Y.hmg a) (Y.hbase a) (Y.hc a) ((Y.hr a).mono hk) (by rw [Y.hN]; exact hN) (by rw [Y.hsc]; exact vis_of hv) hd hcd,
    hs, U, rfl, l, fun v T' l2 p => z v T' l2 True.intro p⟩
end
/-! ### the promises of told, same, is -/
def toldSp (P : Program) (w : World) (K : PySem.W.Frag) (mg : Str → Option Value) (base : Heap) (k : Nat) : Spg := fun vs H Q => ∃ (W : Wd) (f : Addr) (d : PD), W.H = H ∧ vs = [.ref f] ∧ CloP P w K mg base k W f (.d d) ∧ ∀ v T, Le M0 W T → Is K T.F v (.d (.list [.str "told", d])) → Q v T.H
/-- data that may be shown and compared: depth, weight -/
structure Nz (k n : Nat) (d : PD) : Prop where
  sh : Shp k d
  show_ : d.showable = true
  nd : d.hasDict = false
  w : d.weight ≤ n
  sm : d.intsShort 13 = true
theorem Nz.mono {k k' n n' : Nat} {d : PD} (h : Nz k n d) (h1 : k ≤ k') (h2 : n ≤ n') : Nz k' n' d := ⟨h.sh.mono h1, h.show_, h.nd, Nat.le_trans h.w h2, h.sm⟩
theorem nz_non {k n : Nat} : Nz k n .none := ⟨shp_non, rfl, rfl, Nat.zero_le _, rfl⟩
theorem nz_bl {k n : Nat} (b : Bool) : Nz k n (.bool b) := ⟨shp_bl b, rfl, rfl, Nat.zero_le _, rfl⟩
theorem nz_int {k : Nat} {i : Int} (h : i.natAbs < 10 ^ 12) : Nz k 40 (.int i) := by
  have hw : PyData.weight (.int i) ≤ 40 := by
    simp only [PyData.weight]
    split
    · exact Nat.zero_le _
    · rename_i hz
      have hne : i.natAbs ≠ 0 := fun z => hz (by simpa using Int.natAbs_eq_zero.mp z)
      have : i.natAbs.log2 < 40 := (Nat.log2_lt hne).mpr (by omega)
      omega
  have hl : i.natAbs.log2 < 1920 := by
    by_cases hz : i.natAbs = 0
    · rw [hz]
      decide
    · have : i.natAbs.log2 < 40 := (Nat.log2_lt hz).mpr (by omega)
      omega
  refine ⟨shp_int i, by simp [PyData.showable, hl], rfl, hw, ?_⟩
  have := PyData.intsShortAll_ints [i] (fun n hn => by
    have : n = i := by simpa using hn
    rw [this]
    exact h)
  simpa [PyData.intsShortAll] using this
theorem nz_all {k n : Nat} : ∀ {ds : List PD}, (∀ d ∈ ds, Nz k n d) → PyData.showableAll ds = true ∧ PyData.hasDictAll ds = false ∧ PyData.weightAll ds ≤ ds.length * (n + 1) ∧ PyData.intsShortAll 13 ds = true
  | [], _ => ⟨rfl, rfl, Nat.zero_le _, rfl⟩
  | d :: ds, h => by
    obtain ⟨h1, h2, h3, h4⟩ := nz_all (ds := ds) fun x hx => h x (List.mem_cons_of_mem _ hx)
    have hd := h d List.mem_cons_self
    refine ⟨by simp [PyData.showableAll, h1, hd.show_], by simp [PyData.hasDictAll, h2, hd.nd], ?_, by simp [PyData.intsShortAll, h4, hd.sm]⟩
    have := hd.w
    simp only [PyData.weightAll, List.length_cons, Nat.succ_mul]
    omega
theorem nz_list {k n N : Nat} {ds : List PD} (h : ∀ d ∈ ds, Nz k n d) (hN : ds.length * (n + 1) ≤ N) : Nz (k + 1) N (.list ds) := by
  obtain ⟨h1, h2, h3, h4⟩ := nz_all h
  exact ⟨shp_list fun d hd => (h d hd).sh, by simpa [PyData.showable] using h1, by simpa [PyData.hasDict] using h2, by simp only [PyData.weight]; omega, by simpa [PyData.intsShort] using h4⟩
theorem nz_tup {k n N : Nat} {ds : List PD} (h : ∀ d ∈ ds, Nz k n d) (hN : ds.length * (n + 1) ≤ N) : Nz (k + 1) N (.tuple ds) := by
  obtain ⟨h1, h2, h3, h4⟩ := nz_all h
  exact ⟨shp_tup fun d hd => (h d hd).sh, by simpa [PyData.showable] using h1, by simpa [PyData.hasDict] using h2, by simp only [PyData.weight]; omega, by simpa [PyData.intsShort] using h4⟩
theorem nz_str {k n : Nat} {s : Str} (h : PyData.strOk s = true) (hn : s.cps.size ≤ n) : Nz k n (.str s) := ⟨shp_str h, rfl, rfl, by simpa [PyData.weight] using hn, rfl⟩
theorem nz_cons {k n : Nat} {d : PD} {ds : List PD} (h : Nz k n d) (h2 : ∀ x ∈ ds, Nz k n x) : ∀ x ∈ d :: ds, Nz k n x := fun x hx => by
  rcases List.mem_cons.mp hx with rfl | z
  · exact h
  · exact h2 x z
theorem nz_nil {k n : Nat} : ∀ x ∈ ([] : List PD), Nz k n x := fun x hx => by cases hx
theorem Nz.fits {d : PD} (h : Nz 64 1048576 d) : d.shown.length ≤ sizeLine := PyData.shown_fits_of_layable0 (B := 13) (by decide) (by decide) (by
  unfold PyData.layable0
  rw [h.sh.1, decide_eq_true h.sh.2, decide_eq_true (show PyData.weight d ≤ 2 ^ 20 from h.w)]
  rfl) h.sm
abbrev Nc (d : PD) : Prop := Nz 50 200000 d
def sameR : List Sv → Sv → Prop := fun xs y => ∃ ds, xs = [.d (.list ds), .d (.list ds)] ∧ Nz 60 1048576 (.list ds) ∧ y = .d (.bool true)
def isSp (P : Program) (w : World) (K : PySem.W.Frag) (mg : Str → Option Value) (base : Heap) (k : Nat) : Spg := fun vs H Q => ∃ (W : Wd) (v : V) (f1 f2 : Addr) (d : PD), W.H = H ∧ vs = [v, .ref f1, .ref f2] ∧ Is K W.F v (.d d) ∧ CloP P w K mg base k W f1 (.d d) ∧ CloP P w K mg base k W f2 (.d d) ∧ Nc d ∧
  ∀ v T, Le M0 W T → Is K T.F v (.d (.bool true)) → Q v T.H
mutual
theorem eqv_refl : ∀ d : PD, d.canLay0 = true → PyData.eqv d d = true
  | .none, _ => rfl
  | .bool _, _ => by simp [PyData.eqv]
  | .int _, _ => by simp [PyData.eqv]
  | .str _, _ => by simp [PyData.eqv]
  | .list xs, h => by
    have := eqvs_refl xs (by simpa [PyData.canLay0] using h)
    simpa [PyData.eqv] using this
  | .tuple xs, h => by
    have := eqvs_refl xs (by simpa [PyData.canLay0] using h)
    simpa [PyData.eqv] using this
  | .dict _, h => by cases h
theorem eqvs_refl : ∀ ds : List PD, PyData.canLayAll0 ds = true → PyData.eqvAll ds ds = true
  | [], _ => by simp [PyData.eqvAll]
  | d :: ds, h => by
    have h' : d.canLay0 = true ∧ PyData.canLayAll0 ds = true := by simpa [PyData.canLayAll0] using h
    simp [PyData.eqvAll, eqv_refl d h'.1, eqvs_refl ds h'.2]
end
end Pv
set_option Elab.async false
set_option linter.all false
set_option maxRecDepth 100000
set_option maxHeartbeats 4000000
namespace K38
open PySem PySem.Spec PyProof.Rows L2 Pv Oc
section
variable {P : Program} {w : World} {K : PySem.W.Frag} {mg : Str → Option Value} {base : Heap}
theorem sc_told : FnScope ["call", "error", "found"] ["call"] (defScope s__law_told) := ⟨rfl, rfl, rfl, by decide, rfl, by decide, by decide⟩
theorem fn_told (hm : Md K mg) (k : Nat) : Cl P w K mg base (k + 1) "_law_told" s__law_told ["call"] (toldSp P w K mg base k) := by
  refine .of hm.d__law_told (fun _ _ _ _ _ _ us hl => match us, hl with | [_], _ => rfl) fun f fd F => fnG_of F sc_told (fun vs H Q ⟨_, _, _, _, e, _⟩ => by rw [e]; rfl) ?_
  rintro cdv A outer s H hr vs Q ⟨W, f1, d, rfl, rfl, hc, q⟩
  refine s_try0 ?_
  refine s_ret (m := m0) (i := ()) (EL.E (el_lst (ed_cons e_str (ed_cons (e_clo 0 hc (Nat.le_refl _)) ed_nil)))) True.intro fun v T l _ h => q v T l h
theorem sc_same : FnScope ["one", "other"] ["one", "other"] (defScope s__law_same) := ⟨rfl, rfl, rfl, by decide, rfl, by decide, by decide⟩
theorem fn_same (hm : Md K mg) : Cl P w K mg base 1 "_law_same" s__law_same ["one", "other"] (pureSp K sameR) := by
  refine .of hm.d__law_same (fun _ _ _ _ _ _ us hl => match us, hl with | [_, _], _ => rfl) fun f fd F => fnPure F sc_same (by rintro _ _ ⟨_, rfl, _⟩; rfl) ?_
  rintro cdv A outer s H hr vs W xs y ha ⟨ds, rfl, hn, rfl⟩ D hD _
  obtain ⟨v1, v2, rfl, h1, h2⟩ := ha.inv2
  have hd : (PyData.list ds).depth ≤ 64 := Nat.le_trans hn.sh.2 (by decide)
  have hf := (hn.mono (k' := 64) (by decide) (Nat.le_refl _)).fits
  have hs : SeqAt.shaped (.list ds) = true := hn.sh.ok
  refine s_ret0 (i := ()) (e_and (u := true) (v := true) (E.is (EC.val (c_eqs (e_repr (bi hm) (e_v 0 h1) hn.show_ hn.nd hd hf) (e_repr (bi hm) (e_v 1 h2) hn.show_ hn.nd hd hf))) (by simp)) (fun _ => e_one (E.is (EC.val (c_eqd (e_v 0 h1) (e_v 1 h2) hs hs)) (by rw [eqv_refl _ hn.sh.1])))) (Le.refl W) hD
theorem sc_is : FnScope ["due", "call", "named"] ["due", "call", "named"] (defScope s__law_is) := ⟨rfl, rfl, rfl, by decide, rfl, by decide, by decide⟩
def toldD (d : PD) : PD := .list [.str "told", d]
theorem nz_told {d : PD} (h : Nc d) : Nz 60 1048576 (.list [toldD d, toldD d]) := by
  have h1 : Nz 51 400002 (toldD d) := nz_list (nz_cons (k := 50) (n := 200000) (nz_str (by decide +kernel) (by decide +kernel)) (nz_cons h nz_nil)) (by simp)
  exact (nz_list (nz_cons h1 (nz_cons h1 nz_nil)) (N := 800006) (by simp)).mono (by decide) (by decide)
theorem fn_is (hm : Md K mg) (k : Nat) : Cl P w K mg base (k + 2) "_law_is" s__law_is ["due", "call", "named"] (isSp P w K mg base k) := by
  have C1 := fn_told (P := P) (w := w) (base := base) hm k
  have C2 := (fn_same (P := P) (w := w) (base := base) hm).mono (k' := k + 1) (by omega)
  refine .of hm.d__law_is (fun _ _ _ _ _ _ us hl => match us, hl with | [_, _, _], _ => rfl) fun f fd F => fnG_of F sc_is (fun vs H Q ⟨_, _, _, _, _, _, e, _⟩ => by rw [e]; rfl) ?_
  rintro cdv A outer s H hr vs Q ⟨W, v, f1, f2, d, rfl, rfl, hd, hc1, hc2, hn, q⟩
  refine s_ret (m := m0) (i := ()) (x := .d (.bool true)) (e_callD C2 (ea_cons (EL.E (el_lst (ed_cons (d := toldD d) (eg_callS C1 (eg_cons (e_vat 1) eg_nil) ?_ (Nat.le_refl _)) (ed_cons (d := toldD d) (eg_callS C1 (eg_cons (e_vat 2) eg_nil) ?_ (Nat.le_refl _)) ed_nil)))) (ea_cons (EL.E (el_mulL (el_lst (ed_cons (EL.E (el_lst (ed_cons e_str (ed_cons (e_v 0 hd) ed_nil)))) ed_nil)) e_int (by decide) (by simp))) ea_nil)) ⟨[toldD d, toldD d], rfl, nz_told hn, rfl⟩ (Nat.le_refl _)) True.intro (fun v T l _ h => q v T l h)
  · rintro U vs T l1 l2 _ ⟨_, _, T1, rfl, _, rfl, _, rfl⟩ Q' z
    exact ⟨T, f1, d, rfl, rfl, hc1.le (l1.trans l2), z⟩
  · rintro U vs T l1 l2 _ ⟨_, _, T1, rfl, _, rfl, _, rfl⟩ Q' z
    exact ⟨T, f2, d, rfl, rfl, hc2.le (l1.trans l2), z⟩
end
end K38
set_option Elab.async false
set_option linter.all false
set_option maxRecDepth 100000
set_option maxHeartbeats 4000000
namespace Pv
open PySem PySem.Spec PyProof.Rows L2
section
variable {X : Cx} {scope sc : Scope}
theorem clo_cm (has : ∀ y ∈ scope.names, y.2 = .free → ∃ c, X.env.cells.lookup y.1 = some c) {y : Str} {c : Addr} (e : (cloFrom X.env.cells scope.names []).lookup y = some c) : X.env.cells.lookup y = some c := by
  rcases cloFrom_mem (PySem.mem_of_lookup e) with hm | ⟨h1, h2⟩
  · cases hm
  · obtain ⟨c1, hc⟩ := has _ h1 rfl
    have hc' : X.env.cells.lookup y = some c1 := hc
    rw [hc'] at h2 ⊢
    rw [h2]
    rfl
theorem clo_lo (ok : LamOk sc scope) (hsc : X.env.scope = sc) {σ : L2.St} {H : Hp} {ob : Addr → Obj} (LO : LendOk X σ H ob) : (∀ y ∈ scope.names, y.2 = .free → ∃ c, X.env.cells.lookup y.1 = some c) ∧ loB scope (cloFrom X.env.cells scope.names []) := by
  have has : ∀ y ∈ scope.names, y.2 = .free → ∃ c, X.env.cells.lookup y.1 = some c := fun y hy e => LO.has _ (by
    show X.env.scope.names.lookup y.1 = _ ∨ X.env.scope.names.lookup y.1 = _
    rw [hsc]
    exact ok.free y hy e)
  refine ⟨has, ok.kind, ok.co, ok.gen, ok.own, fun y hy e => ?_, fun x y c h1 h2 => LO.inj x y c (clo_cm has h1) (clo_cm has h2)⟩
  have hy2 : (y.1, NameKind.free) ∈ scope.names := by
    rw [← e]
    exact hy
  exact mem_lookup (cloFrom_has (cells := X.env.cells) (acc := []) hy2)
end
/-- the world with the cells lent -/
noncomputable def Wd.lend (T : Wd) (cs : Addr → Prop) (ob : Addr → Obj) : Wd := ⟨lendH T.F cs ob, lendH T.H cs ob, fun a o e => by
  by_cases z : cs a
  · rw [lend_in z] at e ⊢
    exact e
  · rw [lend_out z] at e ⊢
    exact T.sub a o e⟩
noncomputable def Wd.back (T : Wd) (cs : Addr → Prop) : Wd := ⟨delL T.F cs, delL T.H cs, fun a o e => by
  by_cases z : cs a
  · rw [del_in z] at e
    cases e
  · rw [del_out z] at e ⊢
    exact T.sub a o e⟩
theorem lend_f {T : Wd} {cs : Addr → Prop} {ob : Addr → Obj} (hn : ∀ c, cs c → T.H c = none) : ∀ a o, T.F a = some o → ¬ cs a ∧ (T.lend cs ob).F a = some o := fun a o e => by
  have z : ¬ cs a := fun z => by
    have := T.sub a o e
    rw [hn a z] at this
    cases this
  refine ⟨z, ?_⟩
  show lendH T.F cs ob a = some o
  rw [lend_out z]
  exact e
theorem lend_h {T : Wd} {cs : Addr → Prop} {ob : Addr → Obj} (hn : ∀ c, cs c → T.H c = none) : ∀ a o, T.H a = some o → (T.lend cs ob).H a = some o := fun a o e => by
  show lendH T.H cs ob a = some o
  rw [lend_out fun z => by
    rw [hn a z] at e
    cases e]
  exact e
theorem le_back {T T' : Wd} {cs : Addr → Prop} {ob : Addr → Obj} (hn : ∀ c, cs c → T.H c = none) (l : Le M0 (T.lend cs ob) T') : Le M0 T (T'.back cs) := by
  have nz : ∀ a, T.H a ≠ none → ¬ cs a := fun a h z => h (hn a z)
  refine ⟨fun a o e => ?_, fun a o _ e => ?_, fun a e h => ?_, fun a h => ?_⟩
  · obtain ⟨z, e2⟩ := lend_f (ob := ob) hn a o e
    show delL T'.F cs a = some o
    rw [del_out z]
    exact l.f a o e2
  · show delL T'.H cs a = some o
    rw [del_out (nz a (by rw [e]; exact fun z => nomatch z))]
    exact l.h a o (fun z => z) (lend_h hn a o e)
  · show delL T'.F cs a = none
    rw [del_out (nz a h)]
    refine l.n a ?_ ?_
    · show lendH T.F cs ob a = none
      rw [lend_out (nz a h)]
      exact e
    · show lendH T.H cs ob a ≠ none
      rw [lend_out (nz a h)]
      exact h
  · show delL T'.H cs a ≠ none
    rw [del_out (nz a h)]
    refine l.k a ?_
    show lendH T.H cs ob a ≠ none
    rw [lend_out (nz a h)]
    exact h
section
variable {B Cc : Addr} {T : List (Addr × Str)} {Y : Fam} {σ : L2.St} {W : Wd} {i j : Bag} {qn s : Str} {P : Addr} {d : PD} {due b1 b2 : Expr} {pa1 pa2 : Arguments} {sc1 sc2 : Scope} {po1 po2 p pos : Pos}
/-- a lambda of the frame, made at a world, gives x -/
theorem clo_at {kk : Nat} {a0 : Y.α} {x : Sv} {T0 : Wd} {ob : Addr → Obj} {pa : Arguments} {b : Expr} {sc : Scope} {f c' : Addr} {pm ctv : Value} (LO : LendOk (Y.X a0) σ T0.H ob) (hk : lamB Y.sc sc = true) (hm : madeAt (cloFrom (Y.X a0).env.cells sc.names []) qn pa b sc f c' pm ctv T0) (hlen : σ.length = Y.N.length)
    (hbind : ∀ (q : Str) (cl : List (Str × Addr)) (pm cv ctv : Value), bindArgs (PySem.W.kla_fn "<lambda>" q pa b sc cl pm cv ctv) ⟨[], []⟩ = pure []) (hF : ∀ a o, W.F a = some o → T0.F a = some o)
    (hb : ∀ f c' cl, E m0 (loFam Y.P Y.w Y.K Y.mg Y.base Y.N Y.nd qn sc f c' cl kk) σ (fw W.F) () b x ()) : CloP Y.P Y.w Y.K Y.mg Y.base (kk + 1) (T0.lend (isC (Y.X a0)) ob) f x := by
  have ok := lamOk_of hk
  have hn : ∀ c, isC (Y.X a0) c → T0.H c = none := fun c z => (LO.c c z).1
  obtain ⟨has, lo⟩ := clo_lo ok (Y.hsc a0) LO
  refine clo_of (σ0 := σ) (N := Y.N) (nd := Y.nd) (F0 := W.F) (ob := ob) (isC (Y.X a0)) lo (fun y c e => ⟨y, clo_cm has e⟩) (hbind _ _ _ _ _) hlen ⟨(lend_f hn _ _ hm.1).2, lend_h hn _ _ hm.2⟩ (fun c z => ⟨lend_in z, (LO.c c z).2⟩) (fun i y v c h1 h2 h3 h4 => ?_) (fun a o e => lend_f hn a o (hF a o e)) (hb f c' _)
  refine LO.at_ i y v c (by rw [Y.hN]; exact h1) h2 (clo_cm has h3) ?_
  show (Y.X a0).env.scope.names.lookup y = _ ∨ (Y.X a0).env.scope.names.lookup y = _
  rw [Y.hsc]
  exact ok.free _ (PySem.mem_of_lookup h4) rfl
theorem e_is {q0 kk : Nat} {st : Stmt} {ps : List Str} (a0 : Y.α) (C : Cl Y.P Y.w Y.K Y.mg Y.base q0 s st ps (isSp Y.P Y.w Y.K Y.mg Y.base (kk + 1))) (L : LamY Y T qn P) (hd : E (lawM B Cc T) Y σ W i due (.d d) j) (hn : Nc d)
    (h1 : ∀ f c' cl, E m0 (loFam Y.P Y.w Y.K Y.mg Y.base Y.N Y.nd qn sc1 f c' cl kk) σ (fw W.F) () b1 (.d d) ()) (h2 : ∀ f c' cl, E m0 (loFam Y.P Y.w Y.K Y.mg Y.base Y.N Y.nd qn sc2 f c' cl kk) σ (fw W.F) () b2 (.d d) ())
    (hps : ps.length = 3 := by rfl) (hq : q0 ≤ Y.k := by exact Nat.le_of_ble_eq_true rfl) (hlen : σ.length = Y.N.length := by rfl) (hk1 : lamB Y.sc sc1 = true := by rfl) (hk2 : lamB Y.sc sc2 = true := by rfl)
    (hb1 : ∀ (q : Str) (cl : List (Str × Addr)) (pm cv ctv : Value), bindArgs (PySem.W.kla_fn "<lambda>" q pa1 b1 sc1 cl pm cv ctv) ⟨[], []⟩ = pure [] := by intros; rfl) (hb2 : ∀ (q : Str) (cl : List (Str × Addr)) (pm cv ctv : Value), bindArgs (PySem.W.kla_fn "<lambda>" q pa2 b2 sc2 cl pm cv ctv) ⟨[], []⟩ = pure [] := by intros; rfl)
    (hdf1 : ∀ a, defaultsOf pa1 (Y.X a).env = ([], []) := by intro _; rfl) (hdf2 : ∀ a, defaultsOf pa2 (Y.X a).env = ([], []) := by intro _; rfl)
    (hg : Gb Y s := by rfl) (hdb : (s == ("__debug__" : Str)) = false := by decide)
    (he : ∀ a, starEach [due, .Lambda pa1 b1 sc1 po1, .Lambda pa2 b2 sc2 po2] (Y.X a).env = (false, eval due (Y.X a).env) :: starEach [.Lambda pa1 b1 sc1 po1, .Lambda pa2 b2 sc2 po2] (Y.X a).env := by intro _; rfl) (hpl : ∀ a, (backTo pos (starEach [.Lambda pa1 b1 sc1 po1, .Lambda pa2 b2 sc2 po2] (Y.X a).env)).any (·.1) = false := by intro _; rfl) :
    E (lawM B Cc T) Y σ W i (.Call (.Name s p) [due, .Lambda pa1 b1 sc1 po1, .Lambda pa2 b2 sc2 po2] [] pos) (.d (.bool true)) j := by
  obtain ⟨f, fd, m1, m2, m3⟩ := C.ex
  intro U l r Q z
  have ha : EAG (lawM B Cc T) Y σ W i [due, .Lambda pa1 b1 sc1 po1, .Lambda pa2 b2 sc2 po2] _ j := eg_cons hd (eg_cons (eg_lam a0 L hk1 hdf1) (eg_cons (eg_lam a0 L hk2 hdf2) eg_nil)) he
  refine ⟨fun σ H Q => wA Y [due, .Lambda pa1 b1 sc1 po1, .Lambda pa2 b2 sc2 po2] σ H fun vs H1 => vs.length = ps.length ∧ ∀ ob : Addr → Obj, LendOk (Y.X a0) σ H1 ob → isSp Y.P Y.w Y.K Y.mg Y.base (kk + 1) vs (lendH H1 (isC (Y.X a0)) ob) (fun v H2 => Q v (delL H2 (isC (Y.X a0)))), fun a => ?_, ha U l r _ ?_⟩
  · have e := L.one a a0
    subst e
    exact pe_callLend (by rw [Y.hP, Y.hw, Y.hK, Y.hmg, Y.hbase]; exact m3) ((Y.hr a).mono hq) (L.fn a) (hg.gl a) (by rw [Y.hmg]; exact m1) (by rw [Y.hK]; exact m2.kp) (by rw [Y.hK]; exact m2.bindsN C.b) (wA_ok a) hdb (he a) (hpl a)
  · rintro vs T0 l0 r0 ⟨v, _, Ta, rfl, la, hv, lb, _, _, Tb, rfl, lc, ⟨f1, c1, pm1, ct1, rfl, mk1, nm1⟩, ld, _, _, Td, rfl, le, ⟨f2, c2, pm2, ct2, rfl, mk2, nm2⟩, lf, rfl⟩
    refine ⟨hps.symm, fun ob LO => ?_⟩
    have hnn : ∀ c, isC (Y.X a0) c → T0.H c = none := fun c z => (LO.c c z).1
    have WF : ∀ a o, W.F a = some o → T0.F a = some o := fun a o e => l0.f _ _ (l.f _ _ e)
    have k1 := clo_at (W := W) LO hk1 (mk1.le ld nm1) hlen hb1 WF h1
    have k2 := clo_at (W := W) LO hk2 (mk2.le lf nm2) hlen hb2 WF h2
    refine ⟨T0.lend (isC (Y.X a0)) ob, v, f1, f2, d, rfl, rfl, (hv.le lb).mono fun a o e => (lend_f hnn a o e).2, k1, k2, hn, fun v' T' l' hv' => ?_⟩
    have lbk := le_back hnn l'
    have e : v' = .bl true := Is.bl hv'
    subst e
    exact z (.bl true) (T'.back (isC (Y.X a0))) (l0.trans lbk.of0) ((lawM B Cc T).le0 r0 lbk) (Dp.bl true)
end
end Pv
set_option Elab.async false
set_option linter.all false
set_option maxRecDepth 100000
set_option maxHeartbeats 4000000
namespace RT
open PySem PySem.Spec PyProof.Rows L2
section
variable {prog : Program} {w : World} {A : Around} {s : Shared} {R : Result → Shared → Prop} {E : Value → Shared → Prop}
/-- an empty list takes what a turned-about list gives -/
theorem extendRev {J q S : Addr} {xs : Array Value} {res : Value} {c₀ : Nat} (hd : A.handled = none) (at_ : s.heap.IsRevIter J q ((xs.size : Int) - 1)) (of_ : s.heap.IsList q xs) (nq : q ≠ J) (nJ : S ≠ J) (nS : S ≠ q) (small : xs.size ≤ sizeLine)
    (new : s.heap.get? S = some { cls := .type "list", data := .seq #[] c₀ })
    (out : ∀ s' acc' c', Moved [S, J] (fun a b => b = a) s s' → s'.heap.get? S = some { cls := .type "list", dict := none, data := .seq acc' c', slots := #[] } → ItemsOf (fun i v => xs[xs.size - 1 - i]? = some v) acc' xs.size → R (.ok (.ret res)) s') :
    wpAny (model prog w) A.in1 (Builtin.List.listExtendWith (.ref S) (.ref J) res) (fun fin s' => match fin with | .done f => R (.ok f) s' | .again c' => c'.quiet = true ∧ codeAny (model prog w) A c' R s') (fun e s' => R (.error e) s') s := by
  have G := (Walks.listRev (prog := prog) (w := w) (A := A.in1) hd J q nq xs).toS
  have nin : S ∉ [J, q] := by
    simp only [List.mem_cons, List.not_mem_nil, or_false, not_or]
    exact ⟨nJ, nS⟩
  have ty : s.TypeIs (.ref J) "list_reverseiterator" := at_.typeIs
  have same : Builtin.List.listSameRef (.ref S) (.ref J) = false := by simp [Builtin.List.listSameRef, nJ]
  unfold Builtin.List.listExtendWith
  refine wpAny_bind (wpAny_typeOf ty ?_)
  rw [if_neg (show ¬ _ by rw [same]; decide)]
  refine wpAny_bind (wpAny_pyIter_revIter at_ (wpAny_bind (wpAny_holding ?_)))
  unfold Builtin.List.listLengthHint
  refine wpAny_bind (wpAny_specialOf ty nolen_lri (show wpAny _ A.in1 (specialOf (Value.ref J) (Str.ofString "__length_hint__") >>= _) _ _ _ from wpAny_bind (wpAny_specialOf ty hint_lri ?_)))
  generalize nm : ("list_reverseiterator.__length_hint__" : String) = nm0
  wp_delta
  rw [show splitId nm0 = some ("list_reverseiterator", "__length_hint__") by subst nm; decide +kernel]
  subst nm
  refine wpAny_bind (wpAny_isInstance (b := true) ty (show _ by rw [isSubtype_type]; kernel_rfl) (wpAny_pure ?_))
  rw [if_neg (show ¬ _ by decide)]
  have e0 : ((xs.size : Nat) : Int) - 1 - ((0 : Nat) : Int) = (xs.size : Int) - 1 := by omega
  exact wpAny_pure ⟨plainId_quiet F.plain_extend_loop _, codeAny_extend_loopS G small _ nin res xs.size 0 _ _ _ rfl (Nat.zero_le _) ⟨Nat.zero_le _, (by rw [e0]; exact at_), of_⟩ new (ItemsOf.nil _) fun s' acc' c' hm hS' hacc => out s' acc' c' hm hS' hacc⟩
theorem initRev {J q S : Addr} {xs : Array Value} (hd : A.handled = none) (at_ : s.heap.IsRevIter J q ((xs.size : Int) - 1)) (of_ : s.heap.IsList q xs) (nq : q ≠ J) (nJ : S ≠ J) (nS : S ≠ q) (small : xs.size ≤ sizeLine)
    (new : s.heap.get? S = some { cls := .type "list", data := .seq #[] })
    (out : ∀ h' tk acc' c', (∀ b o, b ≠ S → b ≠ J → s.heap.get? b = some o → h'.get? b = some o) → h'.get? S = some { cls := .type "list", dict := none, data := .seq acc' c', slots := #[] } → ItemsOf (fun i v => xs[xs.size - 1 - i]? = some v) acc' xs.size → R (.ok (.ret .none)) { s with heap := h', toks := tk }) :
    wpAny (model prog w) A.in1 (Builtin.«list.__init__» ⟨[.ref S, .ref J], []⟩) (fun fin s' => match fin with | .done f => R (.ok f) s' | .again c' => c'.quiet = true ∧ codeAny (model prog w) A c' R s') (fun e s' => R (.error e) s') s := by
  show wpAny _ A.in1 (Builtin.List.listItems (.ref S) >>= fun old => Builtin.List.listUpdate (.ref S) (fun _ => #[]) >>= fun _ => letGo old.toList.reverse >>= fun _ => Builtin.List.listExtendWith (.ref S) (.ref J) .none) _ _ s
  unfold Builtin.List.listItems
  refine wpAny_bind (wpAny_bind (wpAny_seqItems new rfl (wpAny_pure ?_)))
  show wpAny _ A.in1 (updateSeq S (fun _ => #[]) >>= fun _ => letGo (#[] : Array Value).toList.reverse >>= fun _ => Builtin.List.listExtendWith (.ref S) (.ref J) .none) _ _ s
  have old : ∀ b o, b ≠ S → s.heap.get? b = some o → (s.heap.update S (Obj.mapSeq (fun _ => (#[] : Array Value)))).get? b = some o := fun b o hb e => (Heap.get?_update_other _ _ (Ne.symm hb)).trans e
  refine wpAny_bind (wpAny_updateSeq new rfl (wpAny_bind (wpAny_letGo ?_)))
  refine extendRev (s := { s with heap := s.heap.update S (Obj.mapSeq (fun _ => (#[] : Array Value))) }) hd (at_.at fun o e => old J o (Ne.symm nJ) e) (of_.at fun o e => old q o (Ne.symm nS) e) nq nJ nS small (Heap.get?_update_self (Obj.mapSeq (fun _ => (#[] : Array Value))) new rfl) fun s' acc' c' hm hS' hacc => ?_
  rw [Moved.eq_with hm]
  refine out s'.heap s'.toks acc' c' (fun b o b1 b2 e => hm.heap b o (fun z => ?_) (old b o b1 e)) hS' hacc
  rcases List.mem_cons.mp z with z | z
  · exact b1 z
  · exact b2 (List.mem_singleton.mp z)
end
section
variable {prog : Program} {w : World} {A : Around} {s : Shared} {E : Value → Shared → Prop}
theorem callListRev {J q : Addr} {xs : Array Value} {Q : Value → Shared → Prop} (hd : A.handled = none) (at_ : s.heap.IsRevIter J q ((xs.size : Int) - 1)) (of_ : s.heap.IsList q xs) (nq : q ≠ J) (small : xs.size ≤ sizeLine)
    (out : ∀ h' tk acc' c', (∀ b o, b ≠ J → s.heap.get? b = some o → h'.get? b = some o) → h'.get? s.heap.objs.size = some { cls := .type "list", dict := none, data := .seq acc' c', slots := #[] } → ItemsOf (fun i v => xs[xs.size - 1 - i]? = some v) acc' xs.size → Q (.ref s.heap.objs.size) { s with heap := h', toks := tk }) :
    wpAny (model prog w) A (call (.type "list") [.ref J]) Q E s := by
  obtain ⟨oj, hoj, _⟩ := id at_
  obtain ⟨oq, hoq, _⟩ := id of_
  have n1 : s.heap.objs.size ≠ J := Nat.ne_of_gt (Heap.lt_size hoj)
  have n2 : s.heap.objs.size ≠ q := Nat.ne_of_gt (Heap.lt_size hoq)
  refine callType_codes (Q₁ := fun obj s₁ => obj = .ref s.heap.objs.size ∧ s₁ = { s with heap := s.heap.push { cls := .type "list", data := .seq #[] } }) F.called_list (F.typeCall_list_1 _) F.entry_list_init (code_list_new _ ⟨rfl, rfl⟩) ?_
  rintro obj s₁ ⟨rfl, rfl⟩
  have hS : (s.heap.push { cls := .type "list", data := .seq #[] }).get? s.heap.objs.size = some { cls := .type "list", data := .seq #[] } := Heap.get?_push_size _ rfl
  refine ⟨⟨_, hS, rfl⟩, F.args_list_init_2 _ _, initRev (A := A.in1) (s := { s with heap := s.heap.push { cls := .type "list", data := .seq #[] } }) hd (at_.at fun o e => Heap.get?_push_of_some _ e) (of_.push _) nq n1 n2 small hS fun h' tk acc' c' hk hS' hacc => ?_⟩
  exact ⟨rfl, out h' tk acc' c' (fun b o hb e => hk b o (Nat.ne_of_lt (Heap.lt_size e)) hb (Heap.get?_push_of_some _ e)) hS' hacc⟩
end
/-- list(reversed(x)), x a list: a new list -/
def tListRev (K : PySem.W.Frag) (te : TE) : TE := fun σ H Q => te σ H fun v H1 => ∃ (a : Addr) (xs : List V), v = .ref a ∧ SqL K H1 a xs ∧ ∀ q, H1 q = none → Q (.ref q) (upd H1 q (.lst xs.reverse))
theorem pe_listRev {X : Cx} {e : Expr} {te : TE} {p p2 pos pos2 : Pos} (hc : X.calm = true) (hg : Gl X "list") (hm : X.mg "list" = none) (hg2 : Gl X "reversed") (hm2 : X.mg "reversed" = none) (he : PE X e te)
    (hs : starEach [e] X.env = (false, eval e X.env) :: starEach [] X.env) (hs2 : starEach [.Call (.Name "reversed" p2) [e] [] pos2] X.env = (false, eval (.Call (.Name "reversed" p2) [e] [] pos2) X.env) :: starEach [] X.env) :
    PE X (.Call (.Name "list" p) [.Call (.Name "reversed" p2) [e] [] pos2] [] pos) (tListRev X.K te) := by
  refine ⟨fun pins s σ H Q I h => ?_⟩
  refine Call_ (ld_blt I hg hm boot_list (callWith_type1 (args_cons (Call_ (ld_blt I hg2 hm2 boot_reversed (callWith_type1 (args_cons (thn (he.run pins s σ H _ I h) fun u s1 ⟨v, H1, I1, r1, a, xs, ev, hq, q⟩ => args_nil ?_) hs) hs rfl))) hs2) hs2 rfl))
  subst ev
  cases r1
  obtain ⟨its, rv, p', hz⟩ := I1.list hq
  have hl := p'.isList
  obtain ⟨ol, hol, _⟩ := id hl
  have hne : a ≠ s1.heap.objs.size := Nat.ne_of_lt (Heap.lt_size hol)
  have hn : its.toArray.size ≤ sizeLine := by rw [List.size_toArray, ← rv.length]; exact hz
  refine call_reversed_list hl (args_nil ?_)
  obtain ⟨f0, f1, f2, f3, f4, f5⟩ := I1.fpOk (H' := H1) (b := s1.heap.objs.size) (Nat.le_refl _) (I1.hok.fresh (Nat.le_refl _))
  have I2 : Inv X pins σ H1 { s1 with heap := s1.heap.push (revObj a ((its.toArray.size : Int) - 1)) } := I1.kept (t' := s1.toks) fun b o e => Heap.get?_push_of_some _ e
  refine callListRev (s := { s1 with heap := s1.heap.push (revObj a ((its.toArray.size : Int) - 1)) }) (I1.ok.hd hc) ⟨_, Heap.get?_push_size _ rfl, rfl, rfl⟩ (hl.push _) hne hn fun h' tk acc c' hk hS hi => ?_
  have hT : s1.heap.objs.size ≤ (s1.heap.push (revObj a ((its.toArray.size : Int) - 1))).objs.size := by
    rw [Heap.size_push]
    exact Nat.le_succ _
  refine ⟨.ref (s1.heap.push (revObj a ((its.toArray.size : Int) - 1))).objs.size, _, I1.turnedNew (t' := tk) (ch := [s1.heap.objs.size]) (ob := .lst xs.reverse) (fun b o hb e => hk b o (fun z => hb (by simp [z])) (Heap.get?_push_of_some _ e)) (fun b hb => ?_) hT ⟨by rw [List.length_reverse]; exact hz, acc.toList, c', vals_rev rv hi, ?_⟩, rfl, q _ (I1.hok.fresh hT)⟩
  · have : b = s1.heap.objs.size := by simpa using hb
    subst this
    exact ⟨f0, f1, f2, f3, f4, f5⟩
  · rw [Array.toArray_toList]
    exact hS
end RT
namespace Pv
open PySem PySem.Spec PyProof.Rows L2
section
variable {m : Mode} {Y : Fam} {σ : L2.St} {W W' : Wd} {i j k l : m.ι} {e a b c : Expr} {rest body : List Stmt} {pos pos2 p p2 p' ap cp : Pos} {x y z : Sv} {d d' : PD} {ds : List PD} {u v : Bool} {D : Ends} {s : Str} {n : Nat} {α : Type}
theorem el_listRev (BL : BI Y "list" (.type "list")) (BR : BI Y "reversed" (.type "reversed")) (ha : ERl m Y σ W i e ds j) (hs : ∀ a, starEach [e] (Y.X a).env = (false, eval e (Y.X a).env) :: starEach [] (Y.X a).env := by intro _; rfl)
    (hs2 : ∀ a, starEach [.Call (.Name "reversed" p2) [e] [] pos2] (Y.X a).env = (false, eval (.Call (.Name "reversed" p2) [e] [] pos2) (Y.X a).env) :: starEach [] (Y.X a).env := by intro _; rfl) :
    EL m Y σ W i (.Call (.Name "list" p) [.Call (.Name "reversed" p2) [e] [] pos2] [] pos) ds.reverse j := fun U h1 r Q z =>
  ⟨RT.tListRev Y.K (wE Y e), fun t => by
    have h := RT.pe_listRev (X := Y.X t) (p := p) (p2 := p2) (pos := pos) (pos2 := pos2) (Y.hc t) (BL.g.gl t) (by rw [Y.hmg]; exact BL.m) (BR.g.gl t) (by rw [Y.hmg]; exact BR.m) (wE_ok (e := e) t) (hs t) (hs2 t)
    rw [Y.hK t] at h
    exact h, ha U h1 r _ fun v T l1 r1 ⟨q, vs, e1, e2, e3⟩ => ⟨q, vs, e1, e2 T (Le.refl T), fun p hp =>
      z (.ref p) (T.own p _ hp) (l1.trans (Le.own hp)) (m.le0 r1 (Le.own hp)) ⟨p, _, rfl, l1.back hp, T.fnone hp, upd_same, e3.rev⟩⟩⟩
/-- x = [..] with the fresh list known -/
theorem s_setLcF {elt : Expr} {ifs : List Expr} {scope : Scope} {lp : Pos} (n : Nat) (own : List (Str × Nat)) {xs : List α} {enc : α → PD} {tg iter : Expr} (pr : α → Bool) (g : α → PD) (hi : EI m Y σ W i tg iter xs.length (itE Y.K xs enc) j) (hl : xs.length ≤ 100000)
    (ht : ∀ T0, Le m.M W T0 → ∀ a, a ∈ xs → ∀ x T, Fl W T → m.R j T → Is Y.K T.F x (.d (enc a)) → Turn1 m (Y.blk scope) tg elt ifs (own.map (·.2)) σ x T j (pr a) (g a)) (r : m.R i W)
    (k : ∀ q T, Le m.M W T → m.R j T → Is Y.K T.F (.ref q) (.d (.list ((xs.filter pr).map g))) → wSs Y rest D (σ.set n (some (.ref q))) T.H)
    (hn : Y.N[n]? = some s := by rfl) (hx : Y.sc.names.lookup s = some .local := by rfl) (ok : blkB Y.N Y.sc scope own = true := by rfl)
    (hsw : ∀ a, swapsWith (.ListComp elt [⟨tg, iter, ifs, 0⟩] scope lp) (some (.Name s p')) p.line (Y.X a).env = pure true := by intro _; exact sw_true rfl rfl rfl (by decide +kernel))
    (hs : ∀ a, ∀ x, foldedSetIterable iter (Y.X a).env x = pure x := by intro _ _; rfl) :
    wSs Y (.Assign [.Name s p'] (.ListComp elt [⟨tg, iter, ifs, 0⟩] scope lp) p :: rest) D σ W.H :=
  s_setLc xs pr g hi hl (blk_of ok) (fun T0 l0 k a ha x T hf r hd => ht T0 l0 a (List.mem_of_getElem? ha) x T (l0.fl.trans hf) r (hd a ha)) r hn hx
    (fun q T us l1 r1 e1 e2 e3 e4 => by
      have up : ∀ a o, T.F a = some o → upd T.F q (.lst us) a = some o := upd_none e2
      refine k q (T.ice q _ e3) (l1.ice e1 e3 e2) (m.st j T _ r1 (fun _ _ z => z) fun a z => ?_) (Dp.lst (SqL.of upd_same) (e4.mono up))
      have hne : a ≠ q := fun w => (m.al i W r a z).1 (w ▸ e1)
      show upd T.F q _ a = none
      rw [upd_ne hne]
      exact (m.al j T r1 a z).2) hsw hs
end
theorem cutTo (ns : List Int) (k : Nat) : Pv.cutD (ns.map PyData.int) none (some (k : Int)) = (ns.take k).map .int := by
  have e1 : HT.sIx (ns.map PyData.int).length 0 none = 0 := by simp [HT.sIx]
  unfold Pv.cutD
  rw [e1, List.drop_zero, Nat.sub_zero, ← List.map_take]
  congr 1
  have e2 : HT.sIx (ns.map PyData.int).length (ns.map PyData.int).length (some (k : Int)) = min k ns.length := by
    simp [HT.sIx]
    omega
  rw [e2]
  rcases Nat.le_total k ns.length with h | h
  · rw [Nat.min_eq_left h]
  · rw [Nat.min_eq_right h, List.take_length, List.take_of_length_le h]
end Pv
set_option Elab.async false
set_option linter.all false
set_option maxRecDepth 100000
set_option maxHeartbeats 4000000
namespace Pv
open PySem PySem.Spec PyProof.Rows L2
/-! ### the bag -/
def popB : Nat → Bag → Bag
  | 0, b => b
  | n + 1, b => if (decide (0 < b.hi) || b.cells.isEmpty) = true then b else popB n ⟨b.cells.dropLast, (if 1000000000 < b.cells.getLastD 0 then b.cells.getLastD 0 else 0), b.mix⟩
def dr (b : Bag) (below : Int) : Int × Bag :=
  let c := popB 64 b
  if 0 < c.hi then (c.hi % below, ⟨c.cells, c.hi / below, c.mix⟩)
  else ((((c.mix * 48271 + 11) % 2147483647) * ((c.mix * 48271 + 11) % 2147483647)) % 2147483629 / 7 % below, ⟨c.cells, c.hi, (c.mix * 48271 + 11) % 2147483647⟩)
theorem last_mem : ∀ {l : List Int}, l ≠ [] → l.getLastD 0 ∈ l := fun {l} h => by
  rw [List.getLastD_eq_getLast?, List.getLast?_eq_some_getLast h]
  exact List.getLast_mem h
theorem popB_ok : ∀ (n : Nat) {b : Bag}, BagOk b → BagOk (popB n b)
  | 0, b, h => h
  | n + 1, b, h => by
    unfold popB
    split
    · exact h
    · rename_i hc
      have hne : b.cells ≠ [] := fun z => hc (by simp [z])
      have hl := h.cells _ (last_mem hne)
      refine popB_ok n ⟨by simp only [List.length_dropLast]; have := h.len; omega, fun c hm => h.cells c ((List.dropLast_subset _ hm)), ?_, h.mix⟩
      dsimp only
      split
      · exact hl
      · exact ⟨by decide, by decide⟩
theorem dr_ok {b : Bag} {below : Int} (h : BagOk b) (hb : 0 < below) : BagOk (dr b below).2 ∧ 0 ≤ (dr b below).1 ∧ (dr b below).1 < below := by
  have hp := popB_ok 64 h
  unfold dr
  simp only
  split
  · rename_i hc
    refine ⟨⟨hp.len, hp.cells, ⟨Int.ediv_nonneg hp.hi.1 (by omega), ?_⟩, hp.mix⟩, Int.emod_nonneg _ (by omega), Int.emod_lt_of_pos _ hb⟩
    exact Int.lt_of_le_of_lt (Int.ediv_le_self _ hp.hi.1) hp.hi.2
  · refine ⟨⟨hp.len, hp.cells, hp.hi, Int.emod_nonneg _ (by decide), Int.emod_lt_of_pos _ (by decide)⟩, Int.emod_nonneg _ (by omega), Int.emod_lt_of_pos _ hb⟩
section
variable {B C : Addr} {T : List (Addr × Str)} {Y : Fam} {σ : L2.St} {W : Wd} {b : Bag} {s : Str} {p p1 p2 p3 pos ap cp : Pos} {q : Nat}
theorem e_bagI (n : Nat) (hN : Y.N[n]? = some s := by rfl) (hv : visB Y.sc s = true := by rfl) (hs : σ[n]? = some (some (.ref B)) := by rfl) (hd : (s == ("__debug__" : Str)) = false := by decide) (hcd : (s == ("__classdict__" : Str)) = false := by decide) :
    E (lawM B C T) Y σ W b (.Subscript (.Name s p) (.Constant (.int 1) q p2) pos) (.d (.int b.hi)) b := fun U l r Q z =>
  ⟨tOp (rIxL Y.K) _ _, fun t => pe_ix (by have h := ix_list (X := Y.X t); rw [Y.hK t] at h; exact h) (wE_ok t) (wE_ok t) (by intro _ _; rfl), e_vat (m := lawM B C T) (W := W) (i := b) n hN hv hs hd hcd U l r _ fun v T1 l1 r1 e => e_int (m := lawM B C T) (W := W) T1 (l.trans l1) r1 _ fun v2 T2 l2 r2 p2 =>
    ⟨B, _, 1, .int b.hi, e, p2.int, SqL.of r2.hB, rfl, z _ T2 (l1.trans l2) r2 (Dp.int _)⟩⟩
theorem e_bagM (n : Nat) (hN : Y.N[n]? = some s := by rfl) (hv : visB Y.sc s = true := by rfl) (hs : σ[n]? = some (some (.ref B)) := by rfl) (hd : (s == ("__debug__" : Str)) = false := by decide) (hcd : (s == ("__classdict__" : Str)) = false := by decide) :
    E (lawM B C T) Y σ W b (.Subscript (.Name s p) (.Constant (.int 2) q p2) pos) (.d (.int b.mix)) b := fun U l r Q z =>
  ⟨tOp (rIxL Y.K) _ _, fun t => pe_ix (by have h := ix_list (X := Y.X t); rw [Y.hK t] at h; exact h) (wE_ok t) (wE_ok t) (by intro _ _; rfl), e_vat (m := lawM B C T) (W := W) (i := b) n hN hv hs hd hcd U l r _ fun v T1 l1 r1 e => e_int (m := lawM B C T) (W := W) T1 (l.trans l1) r1 _ fun v2 T2 l2 r2 p2 =>
    ⟨B, _, 2, .int b.mix, e, p2.int, SqL.of r2.hB, rfl, z _ T2 (l1.trans l2) r2 (Dp.int _)⟩⟩
theorem eg_bagC (n : Nat) (hN : Y.N[n]? = some s := by rfl) (hv : visB Y.sc s = true := by rfl) (hs : σ[n]? = some (some (.ref B)) := by rfl) (hd : (s == ("__debug__" : Str)) = false := by decide) (hcd : (s == ("__classdict__" : Str)) = false := by decide) :
    EG (lawM B C T) Y σ W b (.Subscript (.Name s p) (.Constant (.int 0) q p2) pos) (fun _ v _ => v = .ref C) b := fun U l r Q z =>
  ⟨tOp (rIxL Y.K) _ _, fun t => pe_ix (by have h := ix_list (X := Y.X t); rw [Y.hK t] at h; exact h) (wE_ok t) (wE_ok t) (by intro _ _; rfl), e_vat (m := lawM B C T) (W := W) (i := b) n hN hv hs hd hcd U l r _ fun v T1 l1 r1 e => e_int (m := lawM B C T) (W := W) T1 (l.trans l1) r1 _ fun v2 T2 l2 r2 p2 =>
    ⟨B, _, 0, .ref C, e, p2.int, SqL.of r2.hB, rfl, z _ T2 (l1.trans l2) r2 rfl⟩⟩
/-- bag[0] == [] -/
theorem c_bagE {a : Expr} {j : Bag} (ha : EG (lawM B C T) Y σ W b a (fun _ v _ => v = .ref C) b) : EC (lawM B C T) Y σ W b (.Compare a [.Eq] [.List [] p3] pos) b.cells.isEmpty b := fun U l r Q z =>
  ⟨tOp (rEqD Y.K) _ _, fun t => cmpR (by have h := op_eqD (X := Y.X t) (Y.units t); rw [Y.hK t] at h; exact h) (wE_ok t) (wE_ok t) (nomark _), ha U l r _ fun v1 T1 l1 r1 e1 => (el_lst (m := lawM B C T) (W := W) ed_nil) T1 (l.trans l1) r1 _ fun v2 T2 l2 r2 ⟨q, us, e2, q1, q2, q3, q4⟩ => by
    subst e1 e2
    cases q4
    refine ⟨.list (b.cells.map .int), .list [], Dp.lst (SqL.of r2.hC) (dpInts _), Dp.lst (SqL.of q3) .nil, shaped_ints _, (shp_list (k := 0) shp_nil).ok, ?_⟩
    rw [eqv_nilL, List.isEmpty_map]
    exact z _ T2 (l1.trans l2) r2 (Dp.bl _)⟩
/-- bag[0].pop() -/
theorem eg_bagPop {a : Expr} (ha : EG (lawM B C T) Y σ W b a (fun _ v _ => v = .ref C) b) (hne : b.cells ≠ []) (hbase : ∀ t, attributeBase a "pop" (Y.X t).env (eval a (Y.X t).env) = eval a (Y.X t).env := by intro _; rfl) (hline : (ap.endLine == cp.line) = true := by rfl) :
    EG (lawM B C T) Y σ W b (.Call (.Attribute a "pop" ap) [] [] cp) (fun _ v _ => v = .int (b.cells.getLastD 0)) ⟨b.cells.dropLast, b.hi, b.mix⟩ := fun U l r Q z =>
  ⟨tBM0 Y.K "list" rPop (wE Y a), fun t => by
    have h := pe_bm0 (X := Y.X t) (apos := ap) (cpos := cp) PySem.F.plainAttrs_list PySem.F.slot_list_pop PySem.F.type_list_pop mt_pop (wE_ok (e := a) t) (hbase t) hline
    rw [Y.hK t] at h
    exact h, ha U l r _ fun v T1 l1 r1 e1 => by
    subst e1
    have hC := r1.hC
    have hlen : 0 < b.cells.length := List.length_pos_iff.mpr hne
    have hlast : (b.cells.map V.int)[(b.cells.map V.int).length - 1]? = some (.int (b.cells.getLastD 0)) := by
      rw [List.length_map, List.getElem?_map, List.getLastD_eq_getLast?, List.getLast?_eq_getElem?, List.getElem?_eq_getElem (by omega)]
      rfl
    refine ⟨.inl ⟨rfl, _, SqL.of hC⟩, C, _, _, rfl, rfl, hC, hlast, ?_⟩
    have hR : BagR B C T ⟨b.cells.dropLast, b.hi, b.mix⟩ (T1.put C (.lst (b.cells.map V.int).dropLast) r1.fC) := by
      refine ⟨r1.fB, r1.fC, ?_, ?_, r1.ne, ⟨by simp only [List.length_dropLast]; have := r1.ok.len; omega, fun c hm => r1.ok.cells c ((List.dropLast_subset _ hm)), r1.ok.hi, r1.ok.mix⟩, tabs_put r1.tab hC rfl, r1.ft⟩
      · show upd T1.H C _ B = _
        rw [upd_ne r1.ne]
        exact r1.hB
      · show upd T1.H C _ C = _
        rw [upd_same, List.map_dropLast]
    exact z _ (T1.put C _ r1.fC) (l1.trans (Le.put r1.fC (.inr (.inl rfl)))) hR rfl⟩
/-- bag[1] = n, bag[2] = n -/
theorem g_bag {v : Int} {Q : L2.St → Hp → Prop} {Z : Wd} {k : Int} (n : Nat) (b' : Bag) (r : BagR B C T b Z) (l : Le (lawM B C T).M W Z) (hk : (k = 1 ∧ b' = ⟨b.cells, v, b.mix⟩) ∨ (k = 2 ∧ b' = ⟨b.cells, b.hi, v⟩)) (hok : BagOk b')
    (h : ∀ Z', Le (lawM B C T).M Z Z' → BagR B C T b' Z' → Q σ Z'.H) (hN : Y.N[n]? = some s := by rfl) (hv : visB Y.sc s = true := by rfl) (hs : σ[n]? = some (some (.ref B)) := by rfl) (hd : (s == ("__debug__" : Str)) = false := by decide) (hcd : (s == ("__classdict__" : Str)) = false := by decide)
    (ha : ∀ t, ∀ w, assign (.Subscript (.Name s p) (.Constant (.int k) q p2) pos) (Y.X t).env w = (do
      let ov ← holding [w] (eval (.Name s p) (Y.X t).env)
      let iv ← holding [w, ov] (eval (.Constant (.int k) q p2) (Y.X t).env)
      standAt pos
      holding [w, ov, iv] (setItem ov iv w)
      release [w, ov, iv] []) := by intro _ _; rfl) : wG Y (.Subscript (.Name s p) (.Constant (.int k) q p2) pos) (.int v) σ Z.H Q :=
  ⟨gSub (wE Y (.Name s p)) (wE Y (.Constant (.int k) q p2)) rSetL, fun t => pg_sub (wE_ok t) (wE_ok t) set_list (ha t), e_vat (m := lawM B C T) (W := W) (i := b) n hN hv hs hd hcd Z l r _ fun v1 T1 l1 r1 e => e_int (m := lawM B C T) (W := W) T1 (l.trans l1) r1 _ fun v2 T2 l2 r2 p2 => by
    have e2 := p2.int
    subst e e2
    have fin : ∀ j : Nat, ixN 3 k = some j → ([.ref C, .int b.hi, .int b.mix] : List V).set j (.int v) = [.ref C, .int b'.hi, .int b'.mix] → b'.cells = b.cells → ∃ p xs k' j', V.ref B = .ref p ∧ V.int k = .int k' ∧ T2.H p = some (.lst xs) ∧ ixN xs.length k' = some j' ∧ Q σ (upd T2.H p (.lst (xs.set j' (.int v)))) := fun j hj hset hcell => by
      refine ⟨B, _, k, j, rfl, rfl, r2.hB, hj, ?_⟩
      rw [hset]
      refine h (T2.put B _ r2.fB) ((l1.trans l2).trans (Le.put r2.fB (.inl rfl))) ⟨r2.fB, r2.fC, upd_same, ?_, r2.ne, hok, tabs_put r2.tab r2.hB rfl, r2.ft⟩
      show upd T2.H B _ C = _
      rw [upd_ne (Ne.symm r2.ne), hcell]
      exact r2.hC
    rcases hk with ⟨rfl, rfl⟩ | ⟨rfl, rfl⟩
    · exact fin 1 rfl rfl rfl
    · exact fin 2 rfl rfl rfl⟩
end
section
variable {m : Mode} {Y : Fam} {σ : L2.St} {W : Wd} {i j k : m.ι} {e a b : Expr} {rest : List Stmt} {pos p : Pos} {D : Ends} {P : Wd → V → Wd → Prop} {u v : Int}
theorem e_fdivW (ha : E m Y σ W i a (.d (.int u)) j) (hb : E m Y σ W j b (.d (.int v)) k) (hc : CDivW u v) : E m Y σ W i (.BinOp a .FloorDiv b pos) (.d (.int (u / v))) k := e_int2 (fun _ => op_fdivW) ha hb hc
theorem s_retG (he : EG m Y σ W i e P j) (r : m.R i W) (k : ∀ v T, Le m.M W T → m.R j T → P W v T → D.rt v T.H) : wSs Y (.Return (some e) p :: rest) D σ W.H :=
  ⟨_, fun a => pss_cons (ps_ret (wE_ok a)) (wSs_ok (ss := rest) a), he W (Le.refl W) r _ k⟩
end
end Pv
namespace Pv
open PySem PySem.Spec PyProof.Rows L2
/-- a list of values told by words -/
theorem eg_lst {m : Mode} {Y : Fam} {σ : L2.St} {W : Wd} {i j : m.ι} {es : List Expr} {pos : Pos} {P : Wd → List V → Wd → Prop} (h : EAG m Y σ W i es P j) (hl : es.length ≤ 100000 := by exact Nat.le_of_ble_eq_true rfl) (hlen : ∀ U vs T, P U vs T → vs.length = es.length) :
    EG m Y σ W i (.List es pos) (fun U v T' => ∃ p vs T, v = .ref p ∧ Le m.M U T ∧ P U vs T ∧ T.H p = none ∧ T'.F = T.F ∧ T'.H = upd T.H p (.lst vs)) j := fun U h1 r Q k =>
  ⟨_, fun a => pe_lst (wA_ok a), h U h1 r _ fun vs T l1 r1 p1 => by
    refine ⟨small5 (by rw [hlen U vs T p1]; exact hl), fun p hp => ?_⟩
    exact k (.ref p) (T.own p _ hp) (l1.trans (Le.own hp)) (m.le0 r1 (Le.own hp)) ⟨p, vs, T, rfl, l1, p1, hp, rfl, rfl⟩⟩
/-- a draw -/
def drawSp : Spg := fun vs H Q => ∃ (W : Wd) (B C : Addr) (b : Bag) (below : Int), W.H = H ∧ vs = [.ref B, .int below] ∧ BagR B C [] b W ∧ 0 < below ∧ below.natAbs.log2 < 9000 ∧
  ∀ T, Le (lawM B C []).M W T → BagR B C [] (dr b below).2 T → Q (.int (dr b below).1) T.H
/-- the draw's caller -/
theorem bagR_less {B C : Addr} {T : List (Addr × Str)} {b : Bag} {W : Wd} (r : BagR B C T b W) : BagR B C [] b W := ⟨r.fB, r.fC, r.hB, r.hC, r.ne, r.ok, (fun p hp => by cases hp), (fun p hp => by cases hp)⟩
theorem bagR_more {B C : Addr} {T : List (Addr × Str)} {b b' : Bag} {W V : Wd} (r : BagR B C T b W) (l : Le (lawM B C []).M W V) (r' : BagR B C [] b' V) : BagR B C T b' V := by
  have nM : ∀ a o, W.H a = some o → isOwn o = false → ¬ (lawM B C []).M a := fun a o e ho z => by
    rcases z with rfl | rfl | ⟨p, hp, _⟩
    · rw [r.hB] at e
      cases e
      cases ho
    · rw [r.hC] at e
      cases e
      cases ho
    · cases hp
  refine ⟨r'.fB, r'.fC, r'.hB, r'.hC, r'.ne, r'.ok, fun p hp => ?_, fun p hp => ?_⟩
  · obtain ⟨ps, a1, a2, a3⟩ := r.tab p hp
    refine ⟨ps, l.h _ _ (nM _ _ a1 rfl) a1, a2, fun pos cv hc => ?_⟩
    obtain ⟨d, e1, e2⟩ := a3 pos cv hc
    exact ⟨d, e1, l.h _ _ (nM _ _ e2 rfl) e2⟩
  · obtain ⟨ps, a1, _⟩ := r.tab p hp
    exact l.n _ (r.ft p hp) (by rw [a1]; exact fun z => nomatch z)
theorem le_more {B C : Addr} {T : List (Addr × Str)} {W V : Wd} (l : Le (lawM B C []).M W V) : Le (lawM B C T).M W V := l.mono fun a z => by
  rcases z with z | z | ⟨p, hp, _⟩
  · exact .inl z
  · exact .inr (.inl z)
  · cases hp
section
variable {B C : Addr} {T : List (Addr × Str)} {Y : Fam} {σ : L2.St} {W : Wd} {i j : Bag} {s sb : Str} {p pb pos : Pos} {e : Expr}
theorem e_draw {q : Nat} {st : Stmt} {ps : List Str} {below : Int} (n : Nat) (C0 : Cl Y.P Y.w Y.K Y.mg Y.base q s st ps drawSp) (hb : E (lawM B C T) Y σ W i e (.d (.int below)) j) (h0 : 0 < below) (h1 : below.natAbs.log2 < 9000)
    (hN : Y.N[n]? = some sb := by rfl) (hv : visB Y.sc sb = true := by rfl) (hs : σ[n]? = some (some (.ref B)) := by rfl) (hq : q ≤ Y.k := by exact Nat.le_of_ble_eq_true rfl) (hg : Gb Y s := by rfl) (hd : (sb == ("__debug__" : Str)) = false := by decide) (hcd : (sb == ("__classdict__" : Str)) = false := by decide) (hdb : (s == ("__debug__" : Str)) = false := by decide)
    (he : ∀ a, starEach [.Name sb pb, e] (Y.X a).env = (false, eval (.Name sb pb) (Y.X a).env) :: starEach [e] (Y.X a).env := by intro _; rfl) (he2 : ∀ a, starEach [e] (Y.X a).env = (false, eval e (Y.X a).env) :: starEach [] (Y.X a).env := by intro _; rfl) (hpl : ∀ a, (backTo pos (starEach [e] (Y.X a).env)).any (·.1) = false := by intro _; rfl) :
    E (lawM B C T) Y σ W i (.Call (.Name s p) [.Name sb pb, e] [] pos) (.d (.int (dr j below).1)) (dr j below).2 := by
  obtain ⟨f, fd, m1, m2, m3⟩ := C0.ex
  have ha : EAG (lawM B C T) Y σ W i [.Name sb pb, e] _ j := eg_cons (e_vat n hN hv hs hd hcd) (eg_cons hb eg_nil he2) he
  exact fun U l r Q z => ⟨fun σ H Q => wA Y [.Name sb pb, e] σ H fun vs H1 => drawSp vs H1 Q, fun a => pe_callG (by rw [Y.hP, Y.hw, Y.hK, Y.hmg, Y.hbase]; exact m3) ((Y.hr a).mono hq) (hg.gl a) (by rw [Y.hmg]; exact m1) (by rw [Y.hK]; exact m2.kp) (by rw [Y.hK]; exact m2.bindsN C0.b) (wA_ok a) hdb (he a) (hpl a),
    ha U l r _ fun vs T0 l0 r0 ⟨_, _, Ta, e1, la, e2, lb, _, _, Tb, e3, lc, e4, ld, e5⟩ => by
      subst e1 e2 e3 e5
      have e6 := Is.int e4
      subst e6
      exact ⟨T0, B, C, j, below, rfl, rfl, bagR_less r0, h0, h1, fun T' l' r' => z _ T' (l0.trans (le_more l')) (bagR_more r0 l' r') (Dp.int _)⟩⟩
/-- a pick -/
def pickI (ns : List Int) (b : Bag) : Int := ns.getD (dr b ns.length).1.toNat 0
theorem pickI_mem {ns : List Int} {b : Bag} (h : BagOk b) (hn : ns ≠ []) : ns[(dr b ns.length).1.toNat]? = some (pickI ns b) ∧ atI ns (dr b ns.length).1 = some (pickI ns b) := by
  have hl : 0 < ns.length := List.length_pos_iff.mpr hn
  obtain ⟨_, h1, h2⟩ := dr_ok h (show (0 : Int) < ns.length by omega)
  have h3 : (dr b ns.length).1.toNat < ns.length := by omega
  have e : ns[(dr b ns.length).1.toNat]? = some (pickI ns b) := by
    unfold pickI
    rw [List.getD_eq_getElem?_getD, List.getElem?_eq_getElem h3]
    rfl
  refine ⟨e, ?_⟩
  have := atI_nat e
  rwa [Int.toNat_of_nonneg h1] at this
end
def pickSp (K : PySem.W.Frag) : Spg := fun vs H Q => ∃ (W : Wd) (B C : Addr) (b : Bag) (v : V) (ns : List Int), W.H = H ∧ vs = [.ref B, v] ∧ BagR B C [] b W ∧ Is K W.F v (.d (.list (ns.map .int))) ∧ ns ≠ [] ∧ ns.length ≤ 1000 ∧
  ∀ T, Le (lawM B C []).M W T → BagR B C [] (dr b ns.length).2 T → Q (.int (pickI ns b)) T.H
section
variable {B C : Addr} {T : List (Addr × Str)} {Y : Fam} {σ : L2.St} {W : Wd} {i j : Bag} {s sb : Str} {p pb pos : Pos} {e : Expr}
theorem e_pick {q : Nat} {st : Stmt} {ps : List Str} {ns : List Int} (n : Nat) (C0 : Cl Y.P Y.w Y.K Y.mg Y.base q s st ps (pickSp Y.K)) (hb : E (lawM B C T) Y σ W i e (.d (.list (ns.map .int))) j) (h0 : ns ≠ []) (h1 : ns.length ≤ 1000)
    (hN : Y.N[n]? = some sb := by rfl) (hv : visB Y.sc sb = true := by rfl) (hs : σ[n]? = some (some (.ref B)) := by rfl) (hq : q ≤ Y.k := by exact Nat.le_of_ble_eq_true rfl) (hg : Gb Y s := by rfl) (hd : (sb == ("__debug__" : Str)) = false := by decide) (hcd : (sb == ("__classdict__" : Str)) = false := by decide) (hdb : (s == ("__debug__" : Str)) = false := by decide)
    (he : ∀ a, starEach [.Name sb pb, e] (Y.X a).env = (false, eval (.Name sb pb) (Y.X a).env) :: starEach [e] (Y.X a).env := by intro _; rfl) (he2 : ∀ a, starEach [e] (Y.X a).env = (false, eval e (Y.X a).env) :: starEach [] (Y.X a).env := by intro _; rfl) (hpl : ∀ a, (backTo pos (starEach [e] (Y.X a).env)).any (·.1) = false := by intro _; rfl) :
    E (lawM B C T) Y σ W i (.Call (.Name s p) [.Name sb pb, e] [] pos) (.d (.int (pickI ns j))) (dr j ns.length).2 := by
  obtain ⟨f, fd, m1, m2, m3⟩ := C0.ex
  have ha : EAG (lawM B C T) Y σ W i [.Name sb pb, e] _ j := eg_cons (e_vat n hN hv hs hd hcd) (eg_cons hb eg_nil he2) he
  exact fun U l r Q z => ⟨fun σ H Q => wA Y [.Name sb pb, e] σ H fun vs H1 => pickSp Y.K vs H1 Q, fun a => pe_callG (by rw [Y.hP, Y.hw, Y.hK, Y.hmg, Y.hbase]; exact m3) ((Y.hr a).mono hq) (hg.gl a) (by rw [Y.hmg]; exact m1) (by rw [Y.hK]; exact m2.kp) (by rw [Y.hK]; exact m2.bindsN C0.b) (wA_ok a) hdb (he a) (hpl a),
    ha U l r _ fun vs T0 l0 r0 ⟨_, _, Ta, e1, la, e2, lb, v2, _, Tb, e3, lc, e4, ld, e5⟩ => by
      subst e1 e2 e3 e5
      exact ⟨T0, B, C, j, v2, ns, rfl, rfl, bagR_less r0, e4.le ld, h0, h1, fun T' l' r' => z _ T' (l0.trans (le_more l')) (bagR_more r0 l' r') (Dp.int _)⟩⟩
end
end Pv
set_option Elab.async false
set_option linter.all false
set_option maxRecDepth 100000
set_option maxHeartbeats 4000000
namespace K38
open PySem PySem.Spec PyProof.Rows L2 Pv Oc
section
variable {P : Program} {w : World} {K : PySem.W.Frag} {mg : Str → Option Value} {base : Heap}
theorem sc_own_bag : FnScope ["script", "cells", "mixed", "cell"] ["script"] (defScope s__law_own_bag) := ⟨rfl, rfl, rfl, by decide, rfl, by decide, by decide⟩
def cellI (c : Int) : Int := (if c < 0 then -c else c) % 10 ^ (64 : Int).toNat
def bagSp (K : PySem.W.Frag) : Spg := fun vs H Q => ∃ (W : Wd) (v : V) (ns : List Int), W.H = H ∧ vs = [v] ∧ Is K W.F v (.d (.list (ns.map .int))) ∧
  ∀ B C T b, Le M0 W T → W.H B = none → W.H C = none → T.F B = none → T.F C = none → T.H B = some (.lst [.ref C, .int b.hi, .int b.mix]) → T.H C = some (.lst (b.cells.map .int)) → B ≠ C → BagOk b → Q (.ref B) T.H
theorem cellI_ok (c : Int) : 0 ≤ cellI c ∧ cellI c < 10 ^ 64 := ⟨Int.emod_nonneg _ (by decide), Int.emod_lt_of_pos _ (by decide)⟩
theorem fn_own_bag (hm : Md K mg) : Cl P w K mg base 1 "_law_own_bag" s__law_own_bag ["script"] (bagSp K) := by
  refine .of hm.d__law_own_bag (fun _ _ _ _ _ _ us hl => match us, hl with | [_], _ => rfl) fun f fd F => fnG_of F sc_own_bag (fun vs H Q ⟨_, _, _, _, e, _⟩ => by rw [e]; rfl) ?_
  rintro cdv A outer s H hr vs Q ⟨W, v, ns, rfl, rfl, h1, q⟩
  have hpos : (0 : Int) < 10 ^ (64 : Int).toNat := by decide
  refine s_setLcF (m := m0) (i := ()) 1 [("cell", 3)] (xs := ns.take 63) (enc := .int) (fun _ => true) (fun c => .int (cellI c)) (ei_lstE (E.is (EL.E (el_slice (e_v 0 h1) eo_none (eo_some e_int))) (by rw [show (63 : Int) = ((63 : Nat) : Int) from rfl, cutTo]))) (by simp; omega) ?_ True.intro ?_
  · rintro T0 l0 c hc x T hf r hx
    exact ⟨_, fun Q hQ => g_n 3 hQ, rfl, ets_nil, fun _ => e_mod (e_abs (bi hm) (e_intI (bi hm) (e_v 3 hx))) (e_pow e_int e_int ⟨by decide, by decide, by decide⟩) hpos⟩
  intro qc T1 l1 _ hcs
  have ef : (ns.take 63).filter (fun _ => true) = ns.take 63 := List.filter_eq_self.mpr fun _ _ => rfl
  rw [ef] at hcs
  have hcs' : Is K T1.F (.ref qc) (.d (.list (((ns.take 63).map cellI).map .int))) := by
    rw [List.map_map]
    exact hcs
  generalize hcsv : (ns.take 63).map cellI = cs at hcs'
  have hlen : cs.length ≤ 63 := by
    rw [← hcsv]
    simp
    omega
  have hcok : ∀ c ∈ cs, 0 ≤ c ∧ c < 10 ^ 64 := by
    intro c hc
    rw [← hcsv] at hc
    obtain ⟨a, _, rfl⟩ := List.mem_map.mp hc
    exact cellI_ok a
  refine s_st (m := m0) (i := ()) 2 (e_add e_int (e_lenL (bi hm) (e_v 1 hcs'))) True.intro ?_
  intro u2 T2 l2 _ hu2
  have e := Is.int hu2
  subst e
  refine s_forE (m := m0) (i := ()) (xs := cs) (enc := .int) (fun T0 done σ' T' _ => ∃ (mx : Int) (a : Option V), σ' = [some v, some (.ref qc), some (.int mx), a] ∧ Le M0 W T' ∧ 0 ≤ mx ∧ mx < 2147483647) (ei_lstE (e_v 1 (hcs'.le l2))) True.intro (fun T0 l0 _ => ⟨_, none, rfl, (l1.trans l2).trans l0, by simp; omega, by simp; omega⟩) ?_ ?_
  · rintro T0 l0 done c todo hx _ T3 _ f3 _ ⟨mx, a, rfl, l3, m1, m2⟩ vx T4 l4 _ hvx
    refine g_n 3 ?_
    have hmx : Is K T4.F (V.int mx) (.d (.int mx)) := Dp.int _
    refine s_st (m := m0) (i := ()) 2 (e_mod (e_intI (bi hm) (e_add (e_add (e_mul (e_v 2 hmx) e_int (.inr ⟨by decide, by decide⟩)) (e_mod (e_intI (bi hm) (e_v 3 hvx)) e_int (by decide))) e_int)) e_int (by decide)) True.intro ?_
    intro u5 T5 l5 _ hu5
    have e := Is.int hu5
    subst e
    exact s_nil ⟨T5, (), rfl, f3.trans (l4.fl.trans l5.fl), True.intro, _, _, rfl, (l3.trans l4).trans l5, Int.emod_nonneg _ (by decide), Int.emod_lt_of_pos _ (by decide)⟩
  · rintro T0 l0 _ T3 _ f3 _ ⟨mx, a, rfl, l3, m1, m2⟩
    have hmx : Is K T3.F (V.int mx) (.d (.int mx)) := Dp.int _
    have hcs3 : Is K T3.F (.ref qc) (.d (.list (cs.map .int))) := hcs'.fl (l2.fl.trans (l0.fl.trans f3))
    refine s_retG (m := m0) (i := ()) (eg_lst (eg_cons (el_listRev (bi hm) (bi hm) (EL.rl (el_listL (bi hm) (e_v 1 hcs3)))) (eg_cons e_int (eg_cons (e_v 2 hmx) eg_nil))) (hlen := ?hlen)) True.intro ?fin
    case hlen =>
      rintro U vs T ⟨_, _, _, rfl, _, _, _, _, _, _, rfl, _, _, _, _, _, _, rfl, _, _, _, rfl⟩
      rfl
    rintro _ T9 l9 _ ⟨B, vs, T8, rfl, l8, ⟨_, _, Ta, rfl, la, ⟨C, us, rfl, c1, c2, c3, c4⟩, lb, _, _, Tb, rfl, lc, hz, ld, _, _, Tc, rfl, le, hmx9, lf, rfl⟩, hB, eF, eH⟩
    have hz := Is.int hz
    have hmx9 := Is.int hmx9
    subst hz hmx9
    have e4 : us = cs.reverse.map V.int := by
      rw [← List.map_reverse] at c4
      exact c4.ints
    have hC8 : T8.H C = some (.lst (cs.reverse.map V.int)) := by
      rw [← e4]
      exact lb.h C _ (fun z => z) c3
    have hBC : B ≠ C := fun z => by
      rw [z, hC8] at hB
      cases hB
    refine q B C T9 ⟨cs.reverse, 0, mx⟩ (l3.trans l9) ((l3.trans l8).back hB) (l3.back c1) ?_ ?_ ?_ ?_ hBC ⟨by rw [List.length_reverse]; exact hlen, fun c hc => hcok c (List.mem_reverse.mp hc), ⟨Int.le_refl 0, (by decide : (0 : Int) < 10 ^ 64)⟩, m1, m2⟩
    · rw [eF]
      exact T8.fnone hB
    · rw [eF]
      exact lb.n C c2 (by rw [c3]; exact fun z => nomatch z)
    · rw [eH]
      exact upd_same
    · rw [eH, upd_ne (Ne.symm hBC)]
      exact hC8
theorem sc_draw : FnScope ["bag", "below", "turn", "cell", "found"] ["bag", "below"] (defScope s__law_draw) := ⟨rfl, rfl, rfl, by decide, rfl, by decide, by decide⟩
theorem fn_draw (hm : Md K mg) : Cl P w K mg base 1 "_law_draw" s__law_draw ["bag", "below"] drawSp := by
  refine .of hm.d__law_draw (fun _ _ _ _ _ _ us hl => match us, hl with | [_, _], _ => rfl) fun f fd F => fnG_of F sc_draw (fun vs H Q ⟨_, _, _, _, _, _, e, _⟩ => by rw [e]; rfl) ?_
  rintro cdv A outer s H hr vs Q ⟨W, B, C, b, below, rfl, rfl, r, hb, hb2, q⟩
  have after : ∀ (T : Wd) (c : Bag) (a1 a2 : Option V), Le (lawM B C []).M W T → BagR B C [] c T → c = popB 64 b → wSs (dFam P w K mg base ["bag", "below", "turn", "cell", "found"] sc_draw.nd "_law_draw" (defScope s__law_draw) f cdv A outer s W.H 0 hr) ((defBody s__law_draw).drop 1) { nx := fun _ H' => Q .non H', rt := Q } [some (.ref B), some (.int below), a1, a2, none] T.H := by
    intro T c a1 a2 l rc hc
    have hbl : Is K T.F (V.int below) (.d (.int below)) := Dp.int _
    by_cases hh : 0 < c.hi
    · have ed : dr b below = (c.hi % below, ⟨c.cells, c.hi / below, c.mix⟩) := by
        unfold dr
        rw [← hc]
        exact if_pos hh
      refine s_when (m := lawM B C []) (i := c) (u := true) (EC.tst (EC.eq (c_gt (e_bagI 0) e_int) (decide_eq_true hh))) rc (fun _ T1 l1 r1 => ?_) (fun z => nomatch z)
      refine s_st (m := lawM B C []) (i := c) 4 (e_mod (e_intI (bi hm) (e_bagI 0)) (e_v 1 (hbl.le l1)) hb) r1 ?_
      intro u2 T2 l2 r2 hu2
      have e := Is.int hu2
      subst e
      refine s_asg (m := lawM B C []) (i := c) (e_fdivW (e_bagI 0) (e_v 1 (hbl.le (l1.trans l2))) ⟨hb, hb2⟩) r2 ?_
      intro u3 T3 l3 r3 hu3
      have e := Is.int hu3
      subst e
      have hok := (dr_ok r.ok hb).1
      rw [ed] at hok
      refine g_bag (C := C) (T := []) (b := c) 0 ⟨c.cells, c.hi / below, c.mix⟩ r3 (Le.refl T3) (.inl ⟨rfl, rfl⟩) hok ?_
      intro T4 l4 r4
      have hf : Is K T4.F (V.int (c.hi % below)) (.d (.int (c.hi % below))) := Dp.int _
      refine s_ret (m := lawM B C []) (i := ⟨c.cells, c.hi / below, c.mix⟩) (e_v 4 hf) r4 ?_
      intro v T5 l5 r5 hv
      have e := Is.int hv
      subst e
      rw [ed] at q
      exact q T5 ((((l.trans l1).trans l2).trans l3).trans (l4.trans l5)) r5
    · have ed : dr b below = ((((c.mix * 48271 + 11) % 2147483647) * ((c.mix * 48271 + 11) % 2147483647)) % 2147483629 / 7 % below, ⟨c.cells, c.hi, (c.mix * 48271 + 11) % 2147483647⟩) := by
        unfold dr
        rw [← hc]
        exact if_neg hh
      have hok := (dr_ok r.ok hb).1
      rw [ed] at hok
      have hmx : (c.mix * 48271 + 11) % 2147483647 < 2147483647 ∧ 0 ≤ (c.mix * 48271 + 11) % 2147483647 := ⟨Int.emod_lt_of_pos _ (by decide), Int.emod_nonneg _ (by decide)⟩
      refine s_when (m := lawM B C []) (i := c) (u := false) (EC.tst (EC.eq (c_gt (e_bagI 0) e_int) (decide_eq_false hh))) rc (fun z => nomatch z) (fun _ T1 l1 r1 => ?_)
      refine s_asg (m := lawM B C []) (i := c) (e_mod (e_intI (bi hm) (e_add (e_mul (e_bagM 0) e_int (.inr ⟨by decide, by decide⟩)) e_int)) e_int (by decide)) r1 ?_
      intro u3 T3 l3 r3 hu3
      have e := Is.int hu3
      subst e
      refine g_bag (C := C) (T := []) (b := c) 0 ⟨c.cells, c.hi, (c.mix * 48271 + 11) % 2147483647⟩ r3 (Le.refl T3) (.inr ⟨rfl, rfl⟩) hok ?_
      intro T4 l4 r4
      have hbl4 := hbl.le ((l1.trans l3).trans l4)
      refine s_ret (m := lawM B C []) (i := ⟨c.cells, c.hi, (c.mix * 48271 + 11) % 2147483647⟩) (e_mod (e_fdiv (e_mod (e_intI (bi hm) (e_mul (e_bagM 0) (e_bagM 0) (.inl ⟨by dsimp only; omega, by dsimp only; omega⟩))) e_int (by decide)) e_int ⟨by decide, by decide⟩) (e_v 1 hbl4) hb) r4 ?_
      intro v T5 l5 r5 hv
      have e := Is.int hv
      subst e
      rw [ed] at q
      exact q T5 ((l.trans l1).trans (l3.trans (l4.trans l5))) r5
  refine s_forE (m := lawM B C []) (i := b) (j := b) (xs := rgI 0 64) (enc := .int) (fun T0 done σ' T' c => ∃ (a1 a2 : Option V), σ' = [some (.ref B), some (.int below), a1, a2, none] ∧ Le (lawM B C []).M W T' ∧ popB (64 - done.length) c = popB 64 b) (ei_rg1E (bi hm) e_int ⟨by decide, by decide⟩) r (fun T0 l0 r0 => ⟨_, _, rfl, l0, rfl⟩) ?_ ?_
  · rintro T0 l0 done a todo hx _ T1 c f1 r1 ⟨a1, a2, rfl, l1, hp⟩ vx T2 l2 r2 hvx
    refine g_n 2 ?_
    have hdl : done.length < 64 := by
      have h64 : (rgI 0 64).length = 64 := rgI_len
      rw [hx] at h64
      simp at h64
      omega
    obtain ⟨n, hn⟩ : ∃ n, 64 - done.length = n + 1 := ⟨63 - done.length, by omega⟩
    rw [hn] at hp
    have l12 := l1.trans l2.of0
    show wSs _ _ _ [some (.ref B), some (.int below), some vx, a2, none] T2.H
    refine s_when (m := lawM B C []) (i := c) (et_w (ew_or (EC.tst (c_gt (e_bagI 0) e_int)) (fun _ => ew_or1 (EC.tst (c_bagE (j := c) (eg_bagC 0)))))) r2 (fun hu T3 l3 r3 => ?_) (fun hu T3 l3 r3 => ?_)
    · have e1 : popB (n + 1) c = c := if_pos hu
      exact s_break (after T3 c _ _ (l12.trans l3) r3 (e1.symm.trans hp))
    · have hne : c.cells ≠ [] := fun z => by
        rw [z] at hu
        simp at hu
      have e2 : popB (n + 1) c = popB n ⟨c.cells.dropLast, (if 1000000000 < c.cells.getLastD 0 then c.cells.getLastD 0 else 0), c.mix⟩ := if_neg fun z => Bool.noConfusion (Eq.trans (Eq.symm z) hu)
      refine s_stG (m := lawM B C []) (i := c) 3 (eg_bagPop (eg_bagC 0) hne) r3 ?_
      rintro _ T4 l4 r4 rfl
      have hcell : Is K T4.F (V.int (c.cells.getLastD 0)) (.d (.int (c.cells.getLastD 0))) := Dp.int _
      refine s_asg (m := lawM B C []) (i := ⟨c.cells.dropLast, c.hi, c.mix⟩) (P := fun _ v _ => v = .int (if 1000000000 < c.cells.getLastD 0 then c.cells.getLastD 0 else 0)) ?_ r4 ?_ (j := ⟨c.cells.dropLast, c.hi, c.mix⟩)
      · refine EG.imp (e_if (x := .d (.int (if 1000000000 < c.cells.getLastD 0 then c.cells.getLastD 0 else 0))) (EC.tst (c_gt (e_v 3 hcell) (e_pow e_int e_int ⟨by decide, by decide, by decide⟩))) (fun hz => E.is (e_v 3 hcell) ?_) (fun hz => E.is e_int ?_)) fun _ _ _ _ _ _ _ h => Is.int h
        · have : (1000000000 : Int) < c.cells.getLastD 0 := of_decide_eq_true hz
          rw [if_pos this]
        · have : ¬ (1000000000 : Int) < c.cells.getLastD 0 := of_decide_eq_false hz
          rw [if_neg this]
      · rintro _ T5 l5 r5 rfl
        have hl := r3.ok.cells _ (last_mem hne)
        refine g_bag (C := C) (T := []) (b := ⟨c.cells.dropLast, c.hi, c.mix⟩) 0 ⟨c.cells.dropLast, (if 1000000000 < c.cells.getLastD 0 then c.cells.getLastD 0 else 0), c.mix⟩ r5 (Le.refl T5) (.inl ⟨rfl, rfl⟩) ⟨r5.ok.len, r5.ok.cells, ?_, r5.ok.mix⟩ ?_
        · dsimp only
          split
          · exact hl
          · exact ⟨by decide, by decide⟩
        · intro T6 l6 r6
          have l36 := l3.trans (l4.trans (l5.trans l6))
          refine s_nil ⟨T6, _, rfl, f1.trans (l2.fl.trans l36.fl), r6, _, _, rfl, l12.trans l36, ?_⟩
          rw [List.length_append, List.length_singleton, show 64 - (done.length + 1) = n by omega]
          exact e2.symm.trans hp
  · rintro T0 l0 _ T1 c f1 r1 ⟨a1, a2, rfl, l1, hp⟩
    rw [rgI_len] at hp
    exact after T1 c _ _ l1 r1 hp
theorem sc_pick : FnScope ["bag", "some"] ["bag", "some"] (defScope s__law_pick) := ⟨rfl, rfl, rfl, by decide, rfl, by decide, by decide⟩
theorem log2_small {n : Nat} (h : n < 2 ^ 100) : n.log2 < 9000 := by
  by_cases hz : n = 0
  · rw [hz]
    decide
  · have : n.log2 < 100 := (Nat.log2_lt hz).mpr h
    omega
theorem fn_pick (hm : Md K mg) : Cl P w K mg base 2 "_law_pick" s__law_pick ["bag", "some"] (pickSp K) := by
  have C1 := fn_draw (P := P) (w := w) (base := base) hm
  refine .of hm.d__law_pick (fun _ _ _ _ _ _ us hl => match us, hl with | [_, _], _ => rfl) fun f fd F => fnG_of F sc_pick (fun vs H Q ⟨_, _, _, _, _, _, _, e, _⟩ => by rw [e]; rfl) ?_
  rintro cdv A outer s H hr vs Q ⟨W, B, C, b, v, ns, rfl, rfl, r, hv, hne, hlen, q⟩
  have hl : 0 < ns.length := List.length_pos_iff.mpr hne
  have hpk := (pickI_mem r.ok hne).2
  have hat : atI (ns.map PyData.int) (dr b ((ns.map PyData.int).length : Int)).1 = some (.int (pickI ns b)) := by
    rw [List.length_map]
    have h0 := (dr_ok r.ok (show (0 : Int) < ns.length by omega)).2.1
    have := at_map (f := PyData.int) (pickI_mem r.ok hne).1
    rwa [Int.toNat_of_nonneg h0] at this
  refine s_ret (m := lawM B C []) (i := b) (e_ixl (e_v 1 hv) (e_draw 0 C1 (e_lenL (bi hm) (e_v 1 hv)) (by simp; omega) (log2_small (by simp; omega))) hat) r ?_
  intro u T l r' hu
  have e := Is.int hu
  subst e
  rw [List.length_map] at r'
  exact q T l r'
def sharedR : List Sv → Sv → Prop := fun xs y => ∃ a b : Int, xs = [.d (.int a), .d (.int b)] ∧ 0 ≤ a ∧ 0 ≤ b ∧ b < 200 ∧ y = .d (.int ((Int.gcd a b : Nat) : Int))
theorem sc_shared : FnScope ["a", "b", "turn"] ["a", "b"] (defScope s__law_shared) := ⟨rfl, rfl, rfl, by decide, rfl, by decide, by decide⟩
theorem fn_shared (hm : Md K mg) : Cl P w K mg base 1 "_law_shared" s__law_shared ["a", "b"] (pureSp K sharedR) := by
  refine .of hm.d__law_shared (fun _ _ _ _ _ _ us hl => match us, hl with | [_, _], _ => rfl) fun f fd F => fnPure F sc_shared (by rintro _ _ ⟨_, _, rfl, _⟩; rfl) ?_
  rintro cdv A outer s H hr vs W xs y ha ⟨a, b, rfl, ha0, hb0, hb2, rfl⟩ D hD _
  obtain ⟨v1, v2, rfl, h1, h2⟩ := ha.inv2
  have e1 := Is.int h1
  have e2 := Is.int h2
  subst e1 e2
  have after : ∀ (T : Wd) (x y : Int) (a1 : Option V), Le M0 W T → 0 ≤ x → y = 0 → Int.gcd x y = Int.gcd a b → wSs (dFam P w K mg base ["a", "b", "turn"] sc_shared.nd "_law_shared" (defScope s__law_shared) f cdv A outer s H 0 hr) ((defBody s__law_shared).drop 1) D [some (.int x), some (.int y), a1] T.H := by
    intro T x y a1 l hx hy hg
    have hxx : Is K T.F (V.int x) (.d (.int x)) := Dp.int _
    refine s_ret0 (i := ()) (e_v 0 hxx) l hD ?_
    rw [← hg, hy]
    simp
    omega
  refine s_forE (m := m0) (i := ()) (j := ()) (xs := rgI 0 200) (enc := .int) (fun T0 done σ' T' _ => ∃ (x y : Int) (a1 : Option V), σ' = [some (.int x), some (.int y), a1] ∧ Le M0 W T' ∧ 0 ≤ x ∧ 0 ≤ y ∧ Int.gcd x y = Int.gcd a b ∧ y + done.length ≤ 199) (ei_rg1E (bi hm) e_int ⟨by decide, by decide⟩) True.intro (fun T0 l0 _ => ⟨a, b, none, rfl, l0, ha0, hb0, rfl, by simp; omega⟩) ?_ ?_
  · rintro T0 l0 done c todo hx _ T1 _ f1 _ ⟨x, y, a1, rfl, l1, hx0, hy0, hg, hbd⟩ vx T2 l2 _ hvx
    refine g_n 2 ?_
    have hxx : Is K T2.F (V.int x) (.d (.int x)) := Dp.int _
    have hyy : Is K T2.F (V.int y) (.d (.int y)) := Dp.int _
    show wSs _ _ _ [some (.int x), some (.int y), some vx] T2.H
    refine s_when (m := m0) (i := ()) (EC.tst (c_eqi (e_v 1 hyy) e_int)) True.intro (fun hu T3 l3 _ => ?_) (fun hu T3 l3 _ => ?_)
    · exact s_break (after T3 x y _ ((l1.trans l2).trans l3) hx0 (of_decide_eq_true hu) hg)
    · have hne : y ≠ 0 := of_decide_eq_false hu
      refine s_par2 (m := m0) (i := ()) (ea_cons (e_v 1 (hyy.le l3)) (ea_cons (e_mod (e_v 0 (hxx.le l3)) (e_v 1 (hyy.le l3)) (by omega)) ea_nil)) True.intro (n1 := 0) (n2 := 1) rfl rfl (by decide) rfl rfl ?_ (xs := [])
      intro u1 u2 T4 l4 _ hu1 hu2
      have e1 := Is.int hu1
      have e2 := Is.int hu2
      subst e1 e2
      have m1 := Int.emod_nonneg x hne
      have m2 := Int.emod_lt_of_pos x (show 0 < y by omega)
      refine s_nil ⟨T4, (), rfl, f1.trans (l2.fl.trans (l3.fl.trans l4.fl)), True.intro, _, _, _, rfl, ((l1.trans l2).trans l3).trans l4, hy0, m1, ?_, ?_⟩
      · rw [← hg, Int.gcd_comm x y, Int.emod_def, Int.gcd_sub_mul_left_right]
      · rw [List.length_append, List.length_singleton]
        omega
  · rintro T0 l0 _ T1 _ f1 _ ⟨x, y, a1, rfl, l1, hx0, hy0, hg, hbd⟩
    rw [rgI_len] at hbd
    exact absurd hbd (by simp; omega)
end
end K38
set_option Elab.async false
set_option linter.all false
set_option maxRecDepth 100000
set_option maxHeartbeats 4000000
namespace Oc
open PySem PySem.Spec PyProof.Rows L2 Pv
def encK (kn : List Int) : List (Key × PD) := kn.map fun x => (.inl x, .bool true)
def addK (kn : List Int) (x : Int) : List Int := if kn.contains x then kn else kn ++ [x]
theorem putD_encK (kn : List Int) (x : Int) : putD (encK kn) (.inl x) (.bool true) = encK (addK kn x) := by
  have e : ((encK kn).any fun kv => decide (kv.1 = (Sum.inl x : Key))) = kn.contains x := by
    induction kn with
    | nil => rfl
    | cons a kn ih =>
      have ih' : ((encK kn).any fun kv => decide (kv.1 = (Sum.inl x : Key))) = kn.contains x := ih
      rw [List.contains_cons, ← ih']
      show (decide ((Sum.inl a : Key) = Sum.inl x) || _) = _
      congr 1
      by_cases h : a = x
      · subst h
        simp
      · have h1 : ¬ ((Sum.inl a : Key) = Sum.inl x) := fun z => h (Sum.inl.inj z)
        have h2 : (x == a) = false := beq_eq_false_iff_ne.mpr fun z => h z.symm
        rw [h2, decide_eq_false h1]
  unfold putD addK
  rw [e]
  cases hc : kn.contains x with
  | true =>
    rw [if_pos rfl, if_pos rfl]
    unfold encK
    rw [List.map_map]
    apply List.map_congr_left
    intro a ha
    simp only [Function.comp_apply]
    split
    · rfl
    · rfl
  | false =>
    rw [if_neg Bool.false_ne_true, if_neg Bool.false_ne_true]
    simp [encK]
theorem addK_len (kn : List Int) (x : Int) : (addK kn x).length ≤ kn.length + 1 := by
  unfold addK
  split
  · omega
  · simp
theorem addK_nodup {kn : List Int} {x : Int} (h : kn.Nodup) : (addK kn x).Nodup := by
  unfold addK
  split
  · exact h
  · rename_i hc
    rw [List.nodup_append]
    refine ⟨h, by simp, fun a ha b hb => ?_⟩
    have : b = x := by simpa using hb
    subst this
    intro z
    subst z
    exact hc (by simpa using ha)
theorem addK_mem {kn : List Int} {x y : Int} : y ∈ addK kn x ↔ y ∈ kn ∨ y = x := by
  unfold addK
  split
  · rename_i hc
    have : x ∈ kn := by simpa using hc
    constructor
    · exact .inl
    · rintro (h | rfl)
      · exact h
      · exact this
  · simp
def allIn (a b low n i : Int) (kn : List Int) (j : Int) : List Int := if i * a + j * b < low then addK kn (n + i * a + j * b) else kn
def allOut (a b low n : Int) (kn : List Int) (i : Int) : List Int := (rgI 0 (low / b + 1).toNat).foldl (allIn a b low n i) kn
def allS (a b low n : Int) : List Int := (rgI 0 (low / a + 1).toNat).foldl (allOut a b low n) []
theorem allIn_len (a b low n i j : Int) (kn : List Int) : (allIn a b low n i kn j).length ≤ kn.length + 1 := by
  unfold allIn
  split
  · exact addK_len _ _
  · omega
end Oc
set_option Elab.async false
set_option linter.all false
set_option maxRecDepth 100000
set_option maxHeartbeats 4000000
namespace K38
open PySem PySem.Spec PyProof.Rows L2 Pv Oc
section
variable {P : Program} {w : World} {K : PySem.W.Frag} {mg : Str → Option Value} {base : Heap}
def allR : List Sv → Sv → Prop := fun xs y => ∃ a b low n : Int, xs = [.d (.int a), .d (.int b), .d (.int low), .d (.int n)] ∧ 0 < a ∧ a < 100 ∧ 0 < b ∧ b < 100 ∧ 0 ≤ low ∧ low < 200 ∧ y = .dk (encK (allS a b low n))
theorem sc_all : FnScope ["a", "b", "low", "n", "found", "i", "j"] ["a", "b", "low", "n"] (defScope s__law_all) := ⟨rfl, rfl, rfl, by decide, rfl, by decide, by decide⟩
theorem fn_all (hm : Md K mg) : Cl P w K mg base 1 "_law_all" s__law_all ["a", "b", "low", "n"] (pureSp K allR) := by
  refine .of hm.d__law_all (fun _ _ _ _ _ _ us hl => match us, hl with | [_, _, _, _], _ => rfl) fun f fd F => fnPure F sc_all (by rintro _ _ ⟨_, _, _, _, rfl, _⟩; rfl) ?_
  rintro cdv A outer s H hr vs W xs y ha ⟨a, b, low, n, rfl, ha0, ha1, hb0, hb1, hl0, hl1, rfl⟩ D hD _
  obtain ⟨v1, v2, v3, v4, rfl, h1, h2, h3, h4⟩ := inv4 ha
  have q1 : 0 ≤ low / a ∧ low / a < 200 := ⟨Int.ediv_nonneg hl0 (by omega), Int.lt_of_le_of_lt (Int.ediv_le_self _ hl0) hl1⟩
  have q2 : 0 ≤ low / b ∧ low / b < 200 := ⟨Int.ediv_nonneg hl0 (by omega), Int.lt_of_le_of_lt (Int.ediv_le_self _ hl0) hl1⟩
  have nj : (rgI 0 (low / b + 1).toNat).length ≤ 200 := by
    rw [rgI_len]
    omega
  have ni : (rgI 0 (low / a + 1).toNat).length ≤ 200 := by
    rw [rgI_len]
    omega
  refine s_stG (m := m0) (i := ()) 4 ed_empty True.intro ?_
  rintro _ T1 l1 _ ⟨qf, us, rfl, g1, g2, g3, g4⟩
  have oD : OwnD K T1 qf (encK []) := ⟨g2, us, g3, g4⟩
  have hq0 : W.H qf = none := g1
  refine s_forE (m := m0) (i := ()) (j := ()) (xs := rgI 0 (low / a + 1).toNat) (enc := .int) (fun T0 done σ' T' _ => ∃ (a1 a2 : Option V), σ' = [some v1, some v2, some v3, some v4, some (.ref qf), a1, a2] ∧ Le M0 W T' ∧ OwnD K T' qf (encK (done.foldl (allOut a b low n) [])) ∧ (done.foldl (allOut a b low n) []).length ≤ done.length * 200) (ei_rg1E (bi hm) (e_add (e_fdiv (e_v 2 (h3.le l1)) (e_v 0 (h1.le l1)) ⟨ha0, by omega⟩) e_int) ⟨by omega, by omega⟩) True.intro (fun T0 l0 _ => ⟨_, _, rfl, l1.trans l0, oD.le l0 (fun z => z), Nat.zero_le _⟩) ?_ ?_
  · rintro T0 l0 done i todo hx _ T2 _ f2 _ ⟨a1, a2, rfl, l2, o2, z2⟩ vx T3 l3 _ hvx
    have e := Is.int (K := K) hvx
    subst e
    refine g_n 5 ?_
    have l23 := l2.trans l3
    have hdl : done.length < 200 := by
      have := congrArg List.length hx
      simp only [List.length_append, List.length_cons] at this
      omega
    show wSs _ _ _ [some v1, some v2, some v3, some v4, some (.ref qf), some (.int i), a2] T3.H
    refine s_forE (m := m0) (i := ()) (j := ()) (xs := rgI 0 (low / b + 1).toNat) (enc := .int) (fun T0' done' σ' T' _ => ∃ (a2 : Option V), σ' = [some v1, some v2, some v3, some v4, some (.ref qf), some (.int i), a2] ∧ Le M0 W T' ∧ OwnD K T' qf (encK (done'.foldl (allIn a b low n i) (done.foldl (allOut a b low n) []))) ∧ (done'.foldl (allIn a b low n i) (done.foldl (allOut a b low n) [])).length ≤ done.length * 200 + done'.length) (ei_rg1E (bi hm) (e_add (e_fdiv (e_v 2 (h3.le l23)) (e_v 1 (h2.le l23)) ⟨hb0, by omega⟩) e_int) ⟨by omega, by omega⟩) True.intro (fun T0' l0' _ => ⟨_, rfl, l23.trans l0', (o2.le l3 (fun z => z)).le l0' (fun z => z), z2⟩) ?_ ?_
    · rintro T0' l0' done' j todo' hx' _ T4 _ f4 _ ⟨a2, rfl, l4, o4, z4⟩ vx4 T5 l5 _ hvx4
      have e := Is.int (K := K) hvx4
      subst e
      refine g_n 6 ?_
      have l45 := l4.trans l5
      have hdl' : done'.length < 200 := by
        have := congrArg List.length hx'
        simp only [List.length_append, List.length_cons] at this
        omega
      have hi : Is K T5.F (V.int i) (.d (.int i)) := Dp.int _
      have o5 := o4.le l5 (fun z => z)
      have hst : (done' ++ [j]).foldl (allIn a b low n i) (done.foldl (allOut a b low n) []) = allIn a b low n i (done'.foldl (allIn a b low n i) (done.foldl (allOut a b low n) [])) j := by
        rw [List.foldl_append] <;> rfl
      generalize hz : done'.foldl (allIn a b low n i) (done.foldl (allOut a b low n) []) = z at hst o5 z4
      have hzn := allIn_len a b low n i j z
      show wSs _ _ _ [some v1, some v2, some v3, some v4, some (.ref qf), some (.int i), some (.int j)] T5.H
      refine s_when (m := m0) (i := ()) (EC.tst (c_lt (e_add (e_mul (e_v 5 hi) (e_v 0 (h1.le l45)) (.inr ⟨by omega, by omega⟩)) (e_mul (e_v 6 hvx4) (e_v 1 (h2.le l45)) (.inr ⟨by omega, by omega⟩))) (e_v 2 (h3.le l45)))) True.intro (fun hu T6 l6 _ => ?_) (fun hu T6 l6 _ => ?_)
      · have hlt : i * a + j * b < low := of_decide_eq_true hu
        have l56 := l45.trans l6
        refine s_dput (m := m0) (i := ()) (g := n + i * a + j * b) e_bl (fun T l => e_vat 4) (fun T l => e_add (e_add (e_v 3 (h4.le (l56.trans l))) (e_mul (e_v 5 (hi.le (l6.trans l))) (e_v 0 (h1.le (l56.trans l))) (.inr ⟨by omega, by omega⟩))) (e_mul (e_v 6 (hvx4.le (l6.trans l))) (e_v 1 (h2.le (l56.trans l))) (.inr ⟨by omega, by omega⟩))) True.intro (o5.le l6 (fun z => z)) (fun z => z) (by rw [encK, List.length_map]; omega) ?_
        intro T7 l7 _ o7
        rw [putD_encK] at o7
        have e : allIn a b low n i z j = addK z (n + i * a + j * b) := if_pos hlt
        refine s_nil (s_nil ⟨T7, (), rfl, f4.trans (l5.fl.trans (l6.fl.trans l7.fl)), True.intro, _, rfl, (l45.trans l6).step l7 hq0, ?_, ?_⟩)
        · rw [hst, e]
          exact o7
        · rw [hst, List.length_append, List.length_singleton]
          omega
      · have hlt : ¬ i * a + j * b < low := of_decide_eq_false hu
        have e : allIn a b low n i z j = z := if_neg hlt
        refine s_nil ⟨T6, (), rfl, f4.trans (l5.fl.trans l6.fl), True.intro, _, rfl, l45.trans l6, ?_, ?_⟩
        · rw [hst, e]
          exact o5.le l6 (fun z => z)
        · rw [hst, e, List.length_append, List.length_singleton]
          omega
    · rintro T0' l0' _ T4 _ f4 _ ⟨a2, rfl, l4, o4, z4⟩
      have hst : (done ++ [i]).foldl (allOut a b low n) [] = (rgI 0 (low / b + 1).toNat).foldl (allIn a b low n i) (done.foldl (allOut a b low n) []) := by
        rw [List.foldl_append] <;> rfl
      refine s_nil ⟨T4, (), rfl, f2.trans (l3.fl.trans (l0'.fl.trans f4)), True.intro, _, _, rfl, l4, ?_, ?_⟩
      · rw [hst]
        exact o4
      · rw [hst, List.length_append, List.length_singleton]
        omega
  · rintro T0 l0 _ T2 _ f2 _ ⟨a1, a2, rfl, l2, o2, z2⟩
    exact s_retD 4 o2 l2 hq0 hD
end
end K38
set_option Elab.async false
set_option linter.all false
set_option maxRecDepth 100000
set_option maxHeartbeats 4000000
namespace Pv
open PySem PySem.Spec PyProof.Rows L2
/-- a def, its body told with its code object -/
theorem fnG_ofC {P : Program} {w : World} {K : PySem.W.Frag} {mg : Str → Option Value} {base : Heap} {x : Str} {st : Stmt} {f : Addr} {fd : FuncData} {N ps : List Str} {k : Nat} {sp : Spg} (F : FnD K x st f fd) (S : FnScope N ps (defScope st))
    (len : ∀ vs H Q, sp vs H Q → vs.length = ps.length)
    (hbody : ∀ (cdv : Value) (_ : fd.code = cdv) (A : Around) (outer : List Env) (s : Shared) (H : Hp) (hr : RoomG k (A.deeper (envOfC x (defScope st) s.heap.objs.size f cdv))) (vs : List V) (Q : VK), sp vs H Q →
      wSs (dFam P w K mg base N S.nd x (defScope st) f cdv A outer s H k hr) (defBody st) { nx := fun _ H' => Q .non H', rt := Q } (L2.start N vs) H) : FnG P w K mg base (k + 1) f fd ps sp := by
  obtain ⟨oc, od, dV, kV, doc, pm, an, cdv, ct, osl, rfl, lk, hcd, _, _⟩ := F.ex
  refine ⟨len, fun A outer s H args us vs Q hr e0 hb r h => ?_⟩
  refine LamX.run_ofS lk hcd S hr.r e0 hb r (len vs H Q h) fun hr' => ?_
  have hg : RoomG k (A.deeper (envOfC x (defScope st) s.heap.objs.size f cdv)) := ⟨hr', hr.g⟩
  exact ⟨_, (wSs_ok (Y := dFam P w K mg base N S.nd x (defScope st) f cdv A outer s H k hg) ()).nox, hbody cdv rfl A outer s H hg vs Q h⟩
/-- a def with lambdas: its table -/
structure Lm (K : PySem.W.Frag) (mg : Str → Option Value) (base : Heap) (T : List (Addr × Str)) (s : Str) (st : Stmt) (q : Str) : Prop where
  ex : ∃ f fd P c, mg s = some (.ref f) ∧ FnD K s st f fd ∧ fd.code = .ref c ∧ LamX.TabB base mg c P ∧ (P, q) ∈ T ∧ ∀ p ∈ T, p.1 = P → p.2 = q
theorem lamY_d {P : Program} {w : World} {K : PySem.W.Frag} {mg : Str → Option Value} {base : Heap} {N : List Str} {nd : N.Nodup} {x q : Str} {sc : Scope} {f : Addr} {cdv : Value} {A : Around} {outer : List Env} {s : Shared} {H : Hp} {k : Nat} {hr : RoomG k (A.deeper (envOfC x sc s.heap.objs.size f cdv))}
    {T : List (Addr × Str)} {Pt c : Addr} (hc : cdv = .ref c) (TB : LamX.TabB base mg c Pt) (hm : (Pt, q) ∈ T) (hu : ∀ p ∈ T, p.1 = Pt → p.2 = q) (hq : (envOfC x sc s.heap.objs.size f cdv).qual ++ "<lambda>" = q := by rfl) : LamY (dFam P w K mg base N nd x sc f cdv A outer s H k hr) T q Pt :=
  ⟨⟨c, TB, fun _ => hc⟩, fun _ => hq, hm, hu, fun _ _ => rfl, fun _ _ => rfl⟩
theorem Cl.ofL {P : Program} {w : World} {K : PySem.W.Frag} {mg : Str → Option Value} {base : Heap} {T : List (Addr × Str)} {k : Nat} {s q : Str} {st : Stmt} {ps : List Str} {sp : Spg} (L : Lm K mg base T s st q) (b : BindOk s st ps)
    (h : ∀ f fd Pt c, FnD K s st f fd → fd.code = .ref c → LamX.TabB base mg c Pt → (Pt, q) ∈ T → (∀ p ∈ T, p.1 = Pt → p.2 = q) → FnG P w K mg base k f fd ps sp) : Cl P w K mg base k s st ps sp := by
  obtain ⟨f, fd, Pt, c, h1, h2, h3, h4, h5, h6⟩ := L.ex
  exact ⟨b, f, fd, h1, h2, h f fd Pt c h2 h3 h4 h5 h6⟩
end Pv
namespace Pv
open PySem PySem.Spec PyProof.Rows L2
theorem e_minR {m : Mode} {Y : Fam} {σ : L2.St} {W : Wd} {i j : m.ι} {e : Expr} {p pos : Pos} {ns : List Int} {g : Int} (B : BI Y "min" (.builtin "min")) (ha : ERl m Y σ W i e (ns.map .int) j) (hg : g ∈ ns) (hl : ∀ y ∈ ns, g ≤ y) (he : ∀ a, starEach [e] (Y.X a).env = (false, eval e (Y.X a).env) :: starEach [] (Y.X a).env := by intro _; rfl) (hpl : ∀ a, (backTo pos (starEach [] (Y.X a).env)).any (·.1) = false := by intro _; rfl) :
    E m Y σ W i (.Call (.Name "min" p) [e] [] pos) (.d (.int g)) j := fun U h1 r Q z =>
  ⟨tCB (rMin Y.K) (tCons (wE Y e) tNil), fun t => pe_callB (cMin t) (B.g.gl t) (by rw [Y.hmg]; exact B.m) B.v (pa_cons (wE_ok t) pa_nil (he t)) (by decide) (by decide) (he t) (hpl t), ha U h1 r _ fun v T l1 r1 ⟨q, us, e1, e2, e3⟩ => by
    subst e1
    have e4 := e3.ints
    subst e4
    refine ⟨q, ns, rfl, e2 T (Le.refl T), List.length_pos_of_mem hg, fun m' hm hle => ?_⟩
    have e5 : m' = g := by
      have a1 := hl m' hm
      have a2 := hle g hg
      omega
    subst e5
    exact z _ T l1 r1 (Dp.int _)⟩
end Pv
namespace Pv
open PySem PySem.Spec PyProof.Rows L2
theorem EW.is {m : Mode} {Y : Fam} {σ : L2.St} {W : Wd} {i j : m.ι} {e : Expr} {u v : Bool} (h : EW m Y σ W i e u j) (q : u = v) : EW m Y σ W i e v j := q ▸ h
end Pv
set_option Elab.async false
set_option linter.all false
set_option maxRecDepth 100000
set_option maxHeartbeats 4000000
namespace Oc
open PySem PySem.Spec PyProof.Rows L2 Pv
theorem nz_row {l : List Int} (h : ∀ x ∈ l, x.natAbs < 10 ^ 12) (hl : l.length ≤ 1000) : Nz 1 41000 (rowD l) := nz_tup (k := 0) (n := 40) (fun d hd => by
  obtain ⟨x, hx, rfl⟩ := List.mem_map.mp hd
  exact nz_int (h x hx)) (by rw [List.length_map]; omega)
theorem nz_shape {s : Shape} (h : ∀ x ∈ s.1, x.natAbs < 10 ^ 12) (hl : s.1.length ≤ 1000) (h1 : s.2.1.natAbs < 10 ^ 12) (h2 : s.2.2.natAbs < 10 ^ 12) : Nz 2 130000 (encS s) :=
  nz_tup (k := 1) (n := 41000) (nz_cons (nz_row h hl) (nz_cons ((nz_int h1).mono (Nat.zero_le _) (by decide)) (nz_cons ((nz_int h2).mono (Nat.zero_le _) (by decide)) nz_nil))) (by simp)
/-! ### one place that is emptied -/
def numsS (a want : Int) : Nat → Int → List Int
  | 0, _ => []
  | q + 1, x => if x < want then [] else (x - a) :: numsS a want q (x - a)
def emN (a want n : Int) : List Int := n :: numsS a want 300 n
def emSt (a want : Int) : St1 := [(want, want - a)]
/-- what the plain mathematics owes -/
structure EmF (a want n : Int) : Prop where
  shp : ShapeIs (risesS (emSt a want)) n (srt (emN a want n), 0, 0)
  meas : measS (risesS (emSt a want)) = a
  ends : risingS (risesS (emSt a want)) n = none
  come : ∀ most, 0 ≤ most → most < 400 → comeS (risesS (emSt a want)) n most = (srt (emN a want n)).filter fun x => decide (x ≤ most)
  yes : ∀ y, 0 ≤ y → y < 400 → (emN a want n).contains y = true → 0 ≤ (n - y) / a ∧ (n - y) / a ≤ 300 ∧ WordIs (risesS (emSt a want)) n y (some (List.replicate ((n - y) / a).toNat 0))
  no : ∀ y, 0 ≤ y → y < 400 → (emN a want n).contains y = false → WordIs (risesS (emSt a want)) n y none ∧ has (ways (risesS (emSt a want)) n (topS n y)) y = false ∧ inS (srt (emN a want n), 0, 0) y = false
  isS : isShapeS (srt (emN a want n), 0, 0) = true
  clo : closedS (risesS (emSt a want)) (srt (emN a want n), 0, 0)
  inn : inS (srt (emN a want n), 0, 0) n = true
  len : (emN a want n).length ≤ 301
  rng : ∀ x ∈ emN a want n, 0 ≤ x ∧ x ≤ n
theorem emRs {a want : Int} (h1 : 1 ≤ a) (h2 : a ≤ want) : Rs (risesS (emSt a want)) := by
  intro r hr
  have : r = (want, want - a - want) := by simpa [risesS, emSt] using hr
  subst this
  exact ⟨by omega, by show 0 ≤ want + (want - a - want); omega⟩
end Oc
namespace Oc
open PySem PySem.Spec PyProof.Rows L2 Pv
/-! ### filled by some, emptied by others -/
def boSt (a b : Int) : St1 := [(0, a), (b, 0)]
def boG (a b : Int) : Int := ((Int.gcd a b : Nat) : Int)
def boShape (a b n : Int) : Shape := ([], n % boG a b, boG a b)
/-- counts of the law: up, down -/
def boCounts (a b n y : Int) : List (Int × Int) := ((rgI 0 400).filter fun up => decide (y ≤ n + up * a) && decide ((n + up * a - y) % b = 0)).map fun up => (up, (n + up * a - y) / b)
structure BoF (a b n : Int) : Prop where
  g0 : 0 < boG a b
  g9 : boG a b ≤ 9
  shp : ShapeIs (risesS (boSt a b)) n (boShape a b n)
  gaps : gapsS (boShape a b n) n = some []
  comes : ∀ y, 0 ≤ y → y < 400 → has (ways (risesS (boSt a b)) n (topS n y)) y = decide ((y - n) % boG a b = 0)
  isS : isShapeS (boShape a b n) = true
  clo : closedS (risesS (boSt a b)) (boShape a b n)
  inn : inS (boShape a b n) n = true
  out : ∀ y, 0 ≤ y → y < 400 → 0 < (y - n) % boG a b → inS (boShape a b n) y = false
  way : ∀ y, 0 ≤ y → y ≤ 300 → (y - n) % boG a b = 0 → ∃ (up down : Nat) (ws : List Nat), (boCounts a b n y).head? = some ((up : Int), (down : Int)) ∧ up ≤ 1000 ∧ down ≤ 1000 ∧ WordIs (risesS (boSt a b)) n y (some ws) ∧ ws.length = up + down ∧ ws.length ≤ 100000 ∧
    faultS (risesS (boSt a b)) y (List.replicate up 0 ++ List.replicate down 1) 0 n = .none
theorem boRs {a b : Int} (h1 : 1 ≤ a) (h2 : 1 ≤ b) : Rs (risesS (boSt a b)) := by
  intro r hr
  have : r = (0, a - 0) ∨ r = (b, 0 - b) := by simpa [risesS, boSt] using hr
  rcases this with rfl | rfl
  · exact ⟨Int.le_refl 0, by show 0 ≤ 0 + (a - 0); omega⟩
  · exact ⟨by show 0 ≤ b; omega, by show 0 ≤ b + (0 - b); omega⟩
end Oc
namespace Oc
open PySem PySem.Spec PyProof.Rows L2 Pv
/-! ### filled by two -/
def suSt (a b : Int) : St1 := [(0, a), (0, b)]
def suLow (a b : Int) : Int := boG a b * (a / boG a b - 1) * (b / boG a b - 1)
def suNums (a b n : Int) : List Int := srt (allS a b (suLow a b) n)
def suShape (a b n : Int) : Shape := (suNums a b n, n + suLow a b, boG a b)
def suCounts (a b n y : Int) : List Int := ((rgI 0 301).filter fun j => decide (0 ≤ y - n - j * b) && decide ((y - n - j * b) % a = 0)).map fun j => (y - n - j * b) / a + j
structure SuF (a b n : Int) : Prop where
  g0 : 0 < boG a b
  g9 : boG a b ≤ 9
  one : 1 ≤ a / boG a b ∧ a / boG a b ≤ 9 ∧ 1 ≤ b / boG a b ∧ b / boG a b ≤ 9
  low : 0 ≤ suLow a b ∧ suLow a b < 100
  shp : ShapeIs (risesS (suSt a b)) n (suShape a b n)
  rg : ∃ N, RgC (n % boG a b) (n + suLow a b) (boG a b) N ∧ N ≤ 1000 ∧ gapsS (suShape a b n) n = some ((rgS (n % boG a b) (boG a b) N).filter fun x => !(suNums a b n).contains x) ∧
    (((rgS (n % boG a b) (boG a b) N).filter fun x => !(suNums a b n).contains x).length : Int) = (a / boG a b - 1) * (b / boG a b - 1) / 2 + n / boG a b
  meas : measS (risesS (suSt a b)) = boG a b
  ends : (risingS (risesS (suSt a b)) n).isSome = true
  no : ∀ y, 0 ≤ y → y ≤ 300 → suCounts a b n y = [] → WordIs (risesS (suSt a b)) n y none ∧ has (ways (risesS (suSt a b)) n (topS n y)) y = false ∧ inS (suShape a b n) y = false
  yes : ∀ y, 0 ≤ y → y ≤ 300 → suCounts a b n y ≠ [] → ∃ ws : List Nat, WordIs (risesS (suSt a b)) n y (some ws) ∧ has (ways (risesS (suSt a b)) n (topS n y)) y = true ∧ (ws.length : Int) ∈ suCounts a b n y ∧ (∀ c ∈ suCounts a b n y, (ws.length : Int) ≤ c) ∧ ws.length ≤ 1000 ∧
    n + (ws.count 0 : Int) * a + (ws.count 1 : Int) * b = y ∧ faultS (risesS (suSt a b)) y ws.reverse 0 n = .none ∧ ∀ k ∈ ws, k < 2
  far : ∀ x, n + suLow a b ≤ x → inS (suShape a b n) x = decide ((x - n) % boG a b = 0)
  isS : isShapeS (suShape a b n) = true
  clo : closedS (risesS (suSt a b)) (suShape a b n)
  inn : inS (suShape a b n) n = true
  len : (suNums a b n).length ≤ 500
  rng : ∀ x ∈ suNums a b n, 0 ≤ x ∧ x ≤ 1000
theorem suRs {a b : Int} (h1 : 1 ≤ a) (h2 : 1 ≤ b) : Rs (risesS (suSt a b)) := by
  intro r hr
  have : r = (0, a - 0) ∨ r = (0, b - 0) := by simpa [risesS, suSt] using hr
  rcases this with rfl | rfl
  · exact ⟨Int.le_refl 0, by show 0 ≤ 0 + (a - 0); omega⟩
  · exact ⟨Int.le_refl 0, by show 0 ≤ 0 + (b - 0); omega⟩
end Oc
set_option Elab.async false
set_option linter.all false
set_option maxRecDepth 100000
set_option maxHeartbeats 4000000
namespace K38
open PySem PySem.Spec PyProof.Rows L2 Pv Oc
theorem kw_come_shape : KwOk "come_shape" s_come_shape ["net", "n"] ["n", "net"] [1, 0] := fun _ _ _ _ _ _ us hl => match us, hl with | [_, _], _ => rfl
theorem kw_come_gaps : KwOk "come_gaps" s_come_gaps ["net", "n"] ["n", "net"] [1, 0] := fun _ _ _ _ _ _ us hl => match us, hl with | [_, _], _ => rfl
theorem kw_fewest_to : KwOk "fewest_to" s_fewest_to ["net", "n", "y"] ["y", "n", "net"] [2, 1, 0] := fun _ _ _ _ _ _ us hl => match us, hl with | [_, _, _], _ => rfl
theorem kw_come_numbers : KwOk "come_numbers" s_come_numbers ["net", "n", "most"] ["most", "n", "net"] [2, 1, 0] := fun _ _ _ _ _ _ us hl => match us, hl with | [_, _, _], _ => rfl
theorem kw_way_to : KwOk "way_to" s_way_to ["net", "n", "y"] ["y", "n", "net"] [2, 1, 0] := fun _ _ _ _ _ _ us hl => match us, hl with | [_, _, _], _ => rfl
theorem kw_comes_to : KwOk "comes_to" s_comes_to ["net", "n", "y"] ["y", "n", "net"] [2, 1, 0] := fun _ _ _ _ _ _ us hl => match us, hl with | [_, _, _], _ => rfl
theorem kw_is_in_shape : KwOk "is_in_shape" s_is_in_shape ["shape", "x"] ["x", "shape"] [1, 0] := fun _ _ _ _ _ _ us hl => match us, hl with | [_, _], _ => rfl
theorem kw_number_paper_error : KwOk "number_paper_error" s_number_paper_error ["net", "n", "y", "value"] ["value", "y", "n", "net"] [3, 2, 1, 0] := fun _ _ _ _ _ _ us hl => match us, hl with | [_, _, _, _], _ => rfl
theorem kw_way_to_error : KwOk "way_to_error" s_way_to_error ["net", "n", "y", "value"] ["value", "y", "n", "net"] [3, 2, 1, 0] := fun _ _ _ _ _ _ us hl => match us, hl with | [_, _, _, _], _ => rfl
section
variable {P : Program} {w : World} {K : PySem.W.Frag} {mg : Str → Option Value} {base : Heap} {T : List (Addr × Str)}
theorem sc_emptied : FnScope ["bag", "a", "want", "n", "net", "numbers", "now", "turn", "due", "y", "steps", "most", "value", "x"] ["bag", "a", "want", "n"] (defScope s__law_is_emptied) := ⟨rfl, rfl, rfl, by decide, rfl, by decide, by decide⟩
def emSp (T : List (Addr × Str)) : Spg := fun vs H Q => ∃ (W : Wd) (B C : Addr) (b : Bag) (a want n : Int), W.H = H ∧ vs = [.ref B, .int a, .int want, .int n] ∧ BagR B C T b W ∧ 1 ≤ a ∧ a ≤ want ∧ want ≤ 9 ∧ 0 ≤ n ∧ n < 200 ∧
  ∀ b' V, Le (lawM B C T).M W V → BagR B C T b' V → Q (.bl true) V.H
theorem numsS_eq (a want : Int) (q : Nat) (x : Int) : numsS a want (q + 1) x = if x < want then [] else (x - a) :: numsS a want q (x - a) := rfl
theorem fn_emptied (hm : Md K mg) (L : Lm K mg base T "_law_is_emptied" s__law_is_emptied "_law_is_emptied.<locals>.<lambda>") (math : ∀ a want n : Int, 1 ≤ a → a ≤ want → want ≤ 9 → 0 ≤ n → n < 200 → EmF a want n) : Cl P w K mg base 11 "_law_is_emptied" s__law_is_emptied ["bag", "a", "want", "n"] (emSp T) := by
  have CI := fn_is (P := P) (w := w) (base := base) hm 8
  have CD := fn_draw (P := P) (w := w) (base := base) hm
  have CSh := fn_come_shape (P := P) (w := w) (base := base) hm
  have CG := fn_come_gaps (P := P) (w := w) (base := base) hm
  have CM := fn_net_measure (P := P) (w := w) (base := base) hm
  have CE := fn_is_endless (P := P) (w := w) (base := base) hm
  have CS := fn_same (P := P) (w := w) (base := base) hm
  have CF := fn_fewest_to (P := P) (w := w) (base := base) hm
  have CN := fn_come_numbers (P := P) (w := w) (base := base) hm
  have CP := fn_number_paper (P := P) (w := w) (base := base) hm
  have CPE := fn_number_paper_error (P := P) (w := w) (base := base) hm
  have CW := fn_way_to (P := P) (w := w) (base := base) hm
  refine .ofL L (fun _ _ _ _ _ _ us hl => match us, hl with | [_, _, _, _], _ => rfl) fun f fd Pt c F hcode TB hTm hTu => fnG_ofC F sc_emptied (fun vs H Q ⟨_, _, _, _, _, _, _, _, e, _⟩ => by rw [e]; rfl) ?_
  rintro cdv hcdv A outer s H hr vs Q ⟨W, B, C, b, a, want, n, rfl, rfl, r, ha1, ha2, hw9, hn0, hn1, q⟩
  have EF := math a want n ha1 ha2 hw9 hn0 hn1
  have LY := lamY_d (P := P) (w := w) (K := K) (N := ["bag", "a", "want", "n", "net", "numbers", "now", "turn", "due", "y", "steps", "most", "value", "x"]) (nd := sc_emptied.nd) (x := "_law_is_emptied") (sc := defScope s__law_is_emptied) (f := f) (cdv := cdv) (A := A) (outer := outer) (s := s) (H := W.H) (k := 10) (hr := hr) (T := T) (hcdv.symm.trans hcode) TB hTm hTu
  have ok : ∀ z, z < 40000 → Ok (emSt a want) n z := fun z hz => ⟨by simp [emSt], emRs ha1 ha2, by omega, hz⟩
  have h1 : Is K W.F (V.int a) (.d (.int a)) := Dp.int _
  have h2 : Is K W.F (V.int want) (.d (.int want)) := Dp.int _
  have h3 : Is K W.F (V.int n) (.d (.int n)) := Dp.int _
  refine s_st (m := lawM B C T) (i := b) 4 (E.is (e_tup (ed_cons (e_tup (ed_cons (e_tup (ed_cons (e_v 2 h2) ed_nil)) (ed_cons (e_tup (ed_cons (e_sub (e_v 2 h2) (e_v 1 h1)) ed_nil)) ed_nil))) ed_nil)) (show _ = Sv.d (oneD (emSt a want)) from rfl)) r ?_
  intro v4 T1 l1 r1 h4
  refine s_par2G (m := lawM B C T) (i := b) (eg_cons (el_lst (ed_cons (e_v 3 (h3.le l1)) ed_nil)) (eg_cons (e_v 3 (h3.le l1)) eg_nil)) r1 (n1 := 5) (n2 := 6) rfl rfl (by decide) rfl rfl ?_
  rintro vs2 T2 l2 r2 ⟨_, _, Ta, rfl, la, ⟨qn, us, rfl, c1, c2, c3, c4⟩, lb, _, _, Tb, rfl, lc, hx6, ld, rfl⟩
  refine ⟨_, _, rfl, ?_⟩
  have e := Is.int hx6
  subst e
  have hmq : ¬ (lawM B C T).M qn := (lawM B C T).nm r1 c1
  have o2 : OwnL K T2 qn ([n].map .int) := OwnL.le (M := (lawM B C T).M) ⟨c2, us, c3, c4⟩ lb hmq
  have l02 : Le (lawM B C T).M W T2 := l1.trans l2
  have h4w : Is K T2.F v4 (.d (oneD (emSt a want))) := h4.le l2
  have after : ∀ (V : Wd) (x6 x7 : Option L2.V), Le (lawM B C T).M W V → Fl T2 V → BagR B C T b V → OwnL K V qn ((emN a want n).map .int) → wSs (dFam P w K mg base ["bag", "a", "want", "n", "net", "numbers", "now", "turn", "due", "y", "steps", "most", "value", "x"] sc_emptied.nd "_law_is_emptied" (defScope s__law_is_emptied) f cdv A outer s W.H 10 hr) ((defBody s__law_is_emptied).drop 3) { nx := fun _ H' => Q .non H', rt := Q }
      [some (.ref B), some (.int a), some (.int want), some (.int n), some v4, some (.ref qn), x6, x7, none, none, none, none, none, none] V.H := by
    intro V x6 x7 lV fV rV oV
    have hN : Is K V.F v4 (.d (oneD (emSt a want))) := h4w.fl fV
    have hn3 : Is K V.F (L2.V.int n) (.d (.int n)) := Dp.int _
    have ha1' : Is K V.F (L2.V.int a) (.d (.int a)) := Dp.int _
    have hNN : ∀ x ∈ srt (emN a want n), x.natAbs < 10 ^ 12 := fun x hx => by
      have := EF.rng x (srt_mem.mp hx)
      omega
    have hNl : (srt (emN a want n)).length ≤ 1000 := by
      rw [srt_len]
      have := EF.len
      omega
    have nzD : Nc (encS (srt (emN a want n), 0, 0)) := (nz_shape hNN hNl (show (0 : Int).natAbs < 10 ^ 12 by decide) (show (0 : Int).natAbs < 10 ^ 12 by decide)).mono (by decide) (by decide)
    refine s_st (m := lawM B C T) (i := b) 8 (E.is (e_tup (ed_cons (e_tupL (bi hm) (EL.E (el_sortedR (ns' := srt (emN a want n)) (bi hm) (rl_v 5 oV hmq) (srt_perm _) (srt_pw _)))) (ed_cons e_int (ed_cons e_int ed_nil)))) (show _ = Sv.d (encS (srt (emN a want n), 0, 0)) from rfl)) rV ?_
    intro v8 V1 k1 s1 h8
    have o1 := oV.le k1 hmq
    have N1 := hN.le k1
    refine s_when (m := lawM B C T) (i := b) (u := false) (et_not (u := true) (et_val (e_is () CI LY (e_v 8 h8) nzD
      (fun f c' cl => e_callD CSh (ea_cons (e_v 4 N1) (ea_cons (e_v 3 (hn3.le k1)) ea_nil)) ⟨_, _, _, rfl, ok n (by omega), EF.shp, rfl⟩)
      (fun f c' cl => e_callKD CSh kw_come_shape (ek_cons (e_v 3 (hn3.le k1)) (ek_cons (e_v 4 N1) ek_nil)) rfl ⟨_, _, _, rfl, ok n (by omega), EF.shp, rfl⟩)))) s1 (fun z => nomatch z) (fun _ V2 k2 s2 => ?_)
    have N2 := N1.le k2
    have K2 := k1.trans k2
    refine s_when (m := lawM B C T) (i := b) (u := false) (et_not (u := true) (et_val (e_is () CI LY (d := .none) e_non nz_non
      (fun f c' cl => e_callD CG (ea_cons (e_v 4 N2) (ea_cons (e_v 3 (hn3.le K2)) ea_nil)) ⟨_, _, _, rfl, ok n (by omega), EF.shp, Int.le_refl 0, Int.le_refl 0, (by decide : (0 : Int) < 100000), rfl⟩)
      (fun f c' cl => e_callKD CG kw_come_gaps (ek_cons (e_v 3 (hn3.le K2)) (ek_cons (e_v 4 N2) ek_nil)) rfl ⟨_, _, _, rfl, ok n (by omega), EF.shp, Int.le_refl 0, Int.le_refl 0, (by decide : (0 : Int) < 100000), rfl⟩)))) s2 (fun z => nomatch z) (fun _ V3 k3 s3 => ?_)
    have N3 := N2.le k3
    have K3 := K2.trans k3
    refine s_when (m := lawM B C T) (i := b) (u := false) (et_not (u := true) (et_val (e_callD CS (ea_cons (E.is (EL.E (el_lst (ed_cons (e_callD CM (ea_cons (e_v 4 N3) ea_nil) ⟨_, rfl, (ok n (by omega)).l, rfl⟩) (ed_cons (e_callD CE (ea_cons (e_v 4 N3) (ea_cons (e_v 3 (hn3.le K3)) ea_nil)) ⟨_, _, rfl, ok n (by omega), rfl⟩) ed_nil)))) (show _ = Sv.d (.list [.int a, .bool false]) by rw [EF.meas, EF.ends]; rfl)) (ea_cons (EL.E (el_lst (ed_cons (e_v 1 (ha1'.le K3)) (ed_cons e_bl ed_nil)))) ea_nil)) ⟨[.int a, .bool false], rfl, (nz_list (k := 0) (n := 40) (nz_cons (nz_int (by omega)) (nz_cons (nz_bl _) nz_nil)) (Nat.le_refl _)).mono (by decide) (Nat.le_of_ble_eq_true rfl), rfl⟩))) s3 (fun z => nomatch z) (fun _ V4 k4 s4 => ?_)
    have N4 := N3.le k4
    have K4 := K3.trans k4
    refine s_st (m := lawM B C T) (i := b) 9 (e_draw 0 CD (e_add (e_v 3 (hn3.le K4)) e_int) (by omega) (log2_small (by omega))) s4 ?_
    intro v9 V5 k5 s5 h9
    have e := Is.int h9
    subst e
    obtain ⟨hb5, hy0, hy1⟩ := dr_ok rV.ok (show 0 < n + 2 by omega)
    generalize hyv : (dr b (n + 2)).1 = y at h9 hy0 hy1
    generalize hbv : (dr b (n + 2)).2 = b5 at s5 hb5
    have K5 := K4.trans k5
    have N5 := N4.le k5
    have o5 := (((o1.le k2 hmq).le k3 hmq).le k4 hmq).le k5 hmq
    obtain ⟨o, hW, hyes, hno⟩ : ∃ o, WordIs (risesS (emSt a want)) n y o ∧ ((emN a want n).contains y = true → 0 ≤ (n - y) / a ∧ (n - y) / a ≤ 300 ∧ o = some (List.replicate ((n - y) / a).toNat 0)) ∧ ((emN a want n).contains y = false → o = none ∧ has (ways (risesS (emSt a want)) n (topS n y)) y = false ∧ inS (srt (emN a want n), 0, 0) y = false) := by
      cases hc : (emN a want n).contains y with
      | true =>
        obtain ⟨d0, d1, hw⟩ := EF.yes y hy0 (by omega) hc
        exact ⟨_, hw, fun _ => ⟨d0, d1, rfl⟩, fun z => nomatch z⟩
      | false =>
        obtain ⟨hw, d0, d1⟩ := EF.no y hy0 (by omega) hc
        exact ⟨_, hw, (fun z => nomatch z), fun _ => ⟨rfl, d0, d1⟩⟩
    refine s_st (m := lawM B C T) (i := b5) (j := b5) (x := .d (lenD o)) 10 ?est s5 ?_
    case est =>
      cases hc : (emN a want n).contains y with
      | true =>
        obtain ⟨d0, d1, ho⟩ := hyes hc
        refine e_if (u := true) (EC.tst (EC.eq (c_inL (e_v 9 h9) (rl_v 5 o5 hmq)) hc)) (fun _ => E.is (e_fdiv (e_sub (e_v 3 (hn3.le K5)) (e_v 9 h9)) (e_v 1 (ha1'.le K5)) ⟨by omega, by omega⟩) ?_) (fun z => nomatch z)
        rw [ho]
        simp [lenD]
        omega
      | false =>
        obtain ⟨ho, _, _⟩ := hno hc
        refine e_if (u := false) (EC.tst (EC.eq (c_inL (e_v 9 h9) (rl_v 5 o5 hmq)) hc)) (fun z => nomatch z) (fun _ => E.is e_non ?_)
        rw [ho]
        rfl
    intro v10 V6 k6 s6 h10
    have K6 := K5.trans k6
    have N6 := N5.le k6
    have nzo : Nc (lenD o) := by
      cases hc : (emN a want n).contains y with
      | true =>
        obtain ⟨d0, d1, ho⟩ := hyes hc
        rw [ho]
        exact (nz_int (by simp; omega)).mono (Nat.zero_le _) (by decide)
      | false =>
        obtain ⟨ho, _, _⟩ := hno hc
        rw [ho]
        exact nz_non
    refine s_when (m := lawM B C T) (i := b5) (u := false) (et_not (u := true) (et_val (e_is () CI LY (e_v 10 h10) nzo
      (fun f c' cl => e_callD CF (ea_cons (e_v 4 N6) (ea_cons (e_v 3 (hn3.le K6)) (ea_cons (e_v 9 (h9.le k6)) ea_nil))) ⟨_, _, _, _, rfl, ok y (by omega), hW, rfl⟩)
      (fun f c' cl => e_callKD CF kw_fewest_to (ek_cons (e_v 9 (h9.le k6)) (ek_cons (e_v 3 (hn3.le K6)) (ek_cons (e_v 4 N6) ek_nil))) rfl ⟨_, _, _, _, rfl, ok y (by omega), hW, rfl⟩)))) s6 (fun z => nomatch z) (fun _ V7 k7 s7 => ?_)
    have K7 := K6.trans k7
    have N7 := N6.le k7
    refine s_st (m := lawM B C T) (i := b5) 11 (e_draw 0 CD e_int (by decide) (by decide)) s7 ?_
    intro v11 V8 k8 s8 h11
    have e := Is.int h11
    subst e
    obtain ⟨hb8, hm0, hm1⟩ := dr_ok hb5 (show (0 : Int) < 301 by decide)
    generalize hmv : (dr b5 301).1 = most at h11 hm0 hm1
    generalize hbv8 : (dr b5 301).2 = b8 at s8 hb8
    have K8 := K7.trans k8
    have N8 := N7.le k8
    have o8 := ((o5.le k6 hmq).le k7 hmq).le k8 hmq
    refine s_st (m := lawM B C T) (i := b8) 8 (E.is (e_tupL (bi hm) (EL.E (el_lcE [("x", 13)] (fun x : Int => decide (x ≤ most)) .int (ei_lstE (EL.E (el_sortedR (ns' := srt (emN a want n)) (bi hm) (rl_v 5 o8 hmq) (srt_perm _) (srt_pw _)))) (by omega) ?lc))) (show _ = Sv.d (rowD ((srt (emN a want n)).filter fun x => decide (x ≤ most))) from rfl)) s8 ?_
    case lc =>
      rintro T0 l0 x hx v T9 hf r9 hv
      exact ⟨_, fun Q hQ => g_n 13 hQ, rfl, ets_one (EC.tst (c_leq (e_v 13 hv) (e_v 11 (h11.fl hf)))), fun _ => e_v 13 hv⟩
    intro v8b V9 k9 s9 h8b
    have K9 := K8.trans k9
    have N9 := N8.le k9
    have nzr : Nc (rowD ((srt (emN a want n)).filter fun x => decide (x ≤ most))) := (nz_row (fun x hx => hNN x (List.mem_filter.mp hx).1) (Nat.le_trans (List.length_filter_le _ _) hNl)).mono (by decide) (by decide)
    refine s_when (m := lawM B C T) (i := b8) (u := false) (et_not (u := true) (et_val (e_is () CI LY (e_v 8 h8b) nzr
      (fun f c' cl => E.is (e_callD CN (ea_cons (e_v 4 N9) (ea_cons (e_v 3 (hn3.le K9)) (ea_cons (e_v 11 (h11.le k9)) ea_nil))) ⟨_, _, _, rfl, ok most (by omega), rfl⟩) (by rw [EF.come most hm0 (by omega)]))
      (fun f c' cl => E.is (e_callKD CN kw_come_numbers (ek_cons (e_v 11 (h11.le k9)) (ek_cons (e_v 3 (hn3.le K9)) (ek_cons (e_v 4 N9) ek_nil))) rfl ⟨_, _, _, rfl, ok most (by omega), rfl⟩) (by rw [EF.come most hm0 (by omega)]))))) s9 (fun z => nomatch z) (fun _ V10 k10 s10 => ?_)
    have K10 := K9.trans k10
    have N10 := N9.le k10
    have h910 := ((((h9.le k6).le k7).le k8).le k9).le k10
    have h1010 := (((h10.le k7).le k8).le k9).le k10
    have o10 := (o8.le k9 hmq).le k10 hmq
    cases hc : (emN a want n).contains y with
    | false =>
      obtain ⟨ho, hh, hi⟩ := hno hc
      subst ho
      have h1010' : Is K V10.F v10 (.d .none) := h1010
      refine s_when (m := lawM B C T) (i := b8) (u := true) (EC.tst (EC.eq (c_isN (e_v 10 h1010')) rfl)) s10 (fun _ V11 k11 s11 => ?_) (fun z => nomatch z)
      have K11 := K10.trans k11
      have N11 := N10.le k11
      refine s_st (m := lawM B C T) (i := b8) 12 (E.is (e_tup (ed_cons e_str (ed_cons (e_tup (ed_cons (e_tupL (bi hm) (EL.E (el_sortedR (ns' := srt (emN a want n)) (bi hm) (rl_v 5 (o10.le k11 hmq) hmq) (srt_perm _) (srt_pw _)))) (ed_cons e_int (ed_cons e_int ed_nil)))) ed_nil))) (show _ = Sv.d (.tuple [.str "lot", encS (srt (emN a want n), 0, 0)]) from rfl)) s11 ?_
      intro v12 V12 k12 s12 h12
      have K12 := K11.trans k12
      have N12 := N11.le k12
      have h912 := (h910.le k11).le k12
      refine s_ret (m := lawM B C T) (i := b8) (x := .d (.bool true)) (e_and (u := true) (v := true) (EC.val (EC.eq (c_eqs (e_ixt (e_callD CP (ea_cons (e_v 4 N12) (ea_cons (e_v 3 (hn3.le K12)) (ea_cons (e_v 9 h912) ea_nil))) ⟨_, _, _, _, rfl, ok y (by omega), ok n (by omega), hh, EF.shp, rfl⟩) e_int rfl) e_str) (by decide))) (fun _ => e_one (EC.val (EC.eq (c_isN (e_callD CPE (ea_cons (e_v 4 N12) (ea_cons (e_v 3 (hn3.le K12)) (ea_cons (e_v 9 h912) (ea_cons (e_v 12 h12) ea_nil)))) ⟨_, _, _, _, rfl, (ok n (by omega)).l, EF.isS, EF.clo, EF.inn, hi, rfl⟩)) rfl)))) s12 ?_
      intro v V' l' r' hv
      have e := Is.bl hv
      subst e
      exact q b8 V' (lV.trans (K12.trans l')) r'
    | true =>
      obtain ⟨d0, d1, ho⟩ := hyes hc
      subst ho
      have h1010' : Is K V10.F v10 (.d (.int ((n - y) / a))) := by
        have e : lenD (some (List.replicate ((n - y) / a).toNat 0)) = .int ((n - y) / a) := by
          simp [lenD]
          omega
        rw [← e]
        exact h1010
      refine s_when (m := lawM B C T) (i := b8) (u := false) (EC.tst (EC.eq (c_isN (e_v 10 h1010')) rfl)) s10 (fun z => nomatch z) (fun _ V11 k11 s11 => ?_)
      have K11 := K10.trans k11
      have N11 := N10.le k11
      have h911 := h910.le k11
      have erep : PyData.tuple (List.replicate ((n - y) / a).toNat [PyData.int 0]).flatten = .tuple (ksD (List.replicate ((n - y) / a).toNat 0)) := by
        congr 1
        generalize ((n - y) / a).toNat = kk
        induction kk with
        | zero => rfl
        | succ kk ih =>
          rw [List.replicate_succ, List.flatten_cons, ih, List.replicate_succ]
          rfl
      have nzw : Nc (.tuple (ksD (List.replicate ((n - y) / a).toNat 0))) := (nz_tup (k := 0) (n := 40) (fun d hd => by
        obtain ⟨x, hx, rfl⟩ := List.mem_map.mp hd
        have := List.eq_of_mem_replicate hx
        subst this
        exact nz_int (by decide)) (N := 41000) (by simp [ksD]; omega)).mono (by decide) (by decide)
      refine s_ret (m := lawM B C T) (i := b8) (x := .d (.bool true)) (e_is () CI LY (E.is (e_mulT (e_tup (ed_cons e_int ed_nil)) (e_v 10 (h1010'.le k11)) (by simp) ⟨d0, by omega⟩ (by simp)) (by rw [erep])) nzw
        (fun f c' cl => E.ptT (e_callD CW (ea_cons (e_v 4 N11) (ea_cons (e_v 3 (hn3.le K11)) (ea_cons (e_v 9 h911) ea_nil))) ⟨_, _, _, _, rfl, ok y (by omega), hW, rfl⟩))
        (fun f c' cl => E.ptT (e_callKD CW kw_way_to (ek_cons (e_v 9 h911) (ek_cons (e_v 3 (hn3.le K11)) (ek_cons (e_v 4 N11) ek_nil))) rfl ⟨_, _, _, _, rfl, ok y (by omega), hW, rfl⟩))) s11 ?_
      intro v V' l' r' hv
      have e := Is.bl hv
      subst e
      exact q b8 V' (lV.trans (K11.trans l')) r'
  refine s_forE (m := lawM B C T) (i := b) (j := b) (xs := rgI 0 300) (enc := .int) (fun T0 done σ' T' c => c = b ∧ ∃ (x : Int) (acc : List Int) (a7 : Option L2.V), σ' = [some (.ref B), some (.int a), some (.int want), some (.int n), some v4, some (.ref qn), some (.int x), a7, none, none, none, none, none, none] ∧ Le (lawM B C T).M W T' ∧ OwnL K T' qn ((n :: acc).map .int) ∧ acc ++ numsS a want (300 - done.length) x = numsS a want 300 n ∧ acc.length ≤ done.length)
    (ei_rg1E (bi hm) e_int ⟨by decide, by decide⟩) r2 (fun T0 l0 r0 => ⟨rfl, n, [], none, rfl, l02.trans l0, o2.le l0 hmq, rfl, Nat.zero_le _⟩) ?_ ?_
  · rintro T0 l0 done t todo hx _ T3 _ f3 r3 ⟨rfl, x, acc, a7, rfl, l3, o3, hacc, hal⟩ vx T4 l4 r4 hvx
    refine g_n 7 ?_
    have hdl : done.length < 300 := by
      have h300 : (rgI 0 300).length = 300 := rgI_len
      rw [hx] at h300
      simp at h300
      omega
    obtain ⟨k, hk⟩ : ∃ k, 300 - done.length = k + 1 := ⟨299 - done.length, by omega⟩
    rw [hk, numsS_eq] at hacc
    have l34 := l3.trans l4.of0
    have o4 : OwnL K T4 qn ((n :: acc).map .int) := o3.le l4 (fun z => z)
    have hxx : Is K T4.F (V.int x) (.d (.int x)) := Dp.int _
    have hwv : Is K T4.F (V.int want) (.d (.int want)) := Dp.int _
    have hav : Is K T4.F (V.int a) (.d (.int a)) := Dp.int _
    show wSs _ _ _ [some (.ref B), some (.int a), some (.int want), some (.int n), some v4, some (.ref qn), some (.int x), some vx, none, none, none, none, none, none] T4.H
    refine s_when (m := lawM B C T) (EC.tst (c_lt (e_v 6 hxx) (e_v 2 hwv))) r4 (fun hu T5 l5 r5 => ?_) (fun hu T5 l5 r5 => ?_)
    · rw [if_pos (of_decide_eq_true hu), List.append_nil] at hacc
      refine s_break (after T5 _ _ (l34.trans l5) (l0.fl.trans (f3.trans (l4.fl.trans l5.fl))) r5 ?_)
      rw [emN, ← hacc]
      exact o4.le l5 hmq
    · rw [if_neg (of_decide_eq_false hu)] at hacc
      refine s_st (m := lawM B C T) 6 (e_sub (e_v 6 (hxx.le l5)) (e_v 1 (hav.le l5))) r5 ?_
      intro u6 T6 l6 r6 hu6
      have e := Is.int hu6
      subst e
      refine s_append (m := lawM B C T) (e_vat 5) (e_v 6 hu6) r6 ((o4.le l5 hmq).le l6 hmq) hmq (by simp; omega) ?_
      intro T7 l7 r7 o7
      refine s_nil ⟨T7, _, rfl, f3.trans (l4.fl.trans (l5.fl.trans (l6.fl.trans l7.fl))), r7, rfl, x - a, acc ++ [x - a], _, rfl, ?_, ?_, ?_, ?_⟩
      · exact ((l34.trans l5).trans l6).step l7 (l1.back c1)
      · have e : (n :: (acc ++ [x - a])).map PyData.int = (n :: acc).map .int ++ [.int (x - a)] := by simp
        rw [e]
        exact o7
      · rw [List.length_append, List.length_singleton, show 300 - (done.length + 1) = k by omega, List.append_assoc]
        exact hacc
      · simp only [List.length_append, List.length_singleton]
        omega
  · rintro T0 l0 _ T3 _ f3 r3 ⟨rfl, x, acc, a7, rfl, l3, o3, hacc, hal⟩
    rw [rgI_len, show 300 - 300 = 0 from rfl] at hacc
    have e : acc = numsS a want 300 n := by
      rw [← hacc]
      simp [numsS]
    refine after T3 _ _ l3 (l0.fl.trans f3) r3 ?_
    rw [emN, ← e]
    exact o3
end
end K38
set_option Elab.async false
set_option linter.all false
set_option maxRecDepth 100000
set_option maxHeartbeats 4000000
namespace K38
open PySem PySem.Spec PyProof.Rows L2 Pv Oc
section
variable {P : Program} {w : World} {K : PySem.W.Frag} {mg : Str → Option Value} {base : Heap} {T : List (Addr × Str)}
theorem sc_both : FnScope ["bag", "a", "b", "n", "net", "g", "due", "y", "value", "counts", "up", "down"] ["bag", "a", "b", "n"] (defScope s__law_is_both) := ⟨rfl, rfl, rfl, by decide, rfl, by decide, by decide⟩
def boSp (T : List (Addr × Str)) : Spg := fun vs H Q => ∃ (W : Wd) (B C : Addr) (bg : Bag) (a b n : Int), W.H = H ∧ vs = [.ref B, .int a, .int b, .int n] ∧ BagR B C T bg W ∧ 1 ≤ a ∧ a ≤ 9 ∧ 1 ≤ b ∧ b ≤ 9 ∧ 0 ≤ n ∧ n < 200 ∧
  ∀ b' V, Le (lawM B C T).M W V → BagR B C T b' V → Q (.bl true) V.H
theorem rep_ks (k : Nat) (c : Nat) : (List.replicate k [PyData.int (c : Int)]).flatten = ksD (List.replicate k c) := by
  induction k with
  | zero => rfl
  | succ k ih =>
    rw [List.replicate_succ, List.flatten_cons, ih, List.replicate_succ]
    rfl
theorem fn_both (hm : Md K mg) (L : Lm K mg base T "_law_is_both" s__law_is_both "_law_is_both.<locals>.<lambda>") (math : ∀ a b n : Int, 1 ≤ a → a ≤ 9 → 1 ≤ b → b ≤ 9 → 0 ≤ n → n < 200 → BoF a b n) : Cl P w K mg base 11 "_law_is_both" s__law_is_both ["bag", "a", "b", "n"] (boSp T) := by
  have CI := fn_is (P := P) (w := w) (base := base) hm 8
  have CD := fn_draw (P := P) (w := w) (base := base) hm
  have CR := fn_shared (P := P) (w := w) (base := base) hm
  have CSh := fn_come_shape (P := P) (w := w) (base := base) hm
  have CG := fn_come_gaps (P := P) (w := w) (base := base) hm
  have CC := fn_comes_to (P := P) (w := w) (base := base) hm
  have CF := fn_fewest_to (P := P) (w := w) (base := base) hm
  have CPE := fn_number_paper_error (P := P) (w := w) (base := base) hm
  have CWE := fn_way_to_error (P := P) (w := w) (base := base) hm
  refine .ofL L (fun _ _ _ _ _ _ us hl => match us, hl with | [_, _, _, _], _ => rfl) fun f fd Pt c F hcode TB hTm hTu => fnG_ofC F sc_both (fun vs H Q ⟨_, _, _, _, _, _, _, _, e, _⟩ => by rw [e]; rfl) ?_
  rintro cdv hcdv A outer s H hr vs Q ⟨W, B, C, bg, a, b, n, rfl, rfl, r, ha1, ha9, hb1, hb9, hn0, hn1, q⟩
  have BF := math a b n ha1 ha9 hb1 hb9 hn0 hn1
  have LY := lamY_d (P := P) (w := w) (K := K) (N := ["bag", "a", "b", "n", "net", "g", "due", "y", "value", "counts", "up", "down"]) (nd := sc_both.nd) (x := "_law_is_both") (sc := defScope s__law_is_both) (f := f) (cdv := cdv) (A := A) (outer := outer) (s := s) (H := W.H) (k := 10) (hr := hr) (T := T) (hcdv.symm.trans hcode) TB hTm hTu
  have ok : ∀ z, z < 40000 → Ok (boSt a b) n z := fun z hz => ⟨by simp [boSt], boRs ha1 hb1, by omega, hz⟩
  have hg0 := BF.g0
  have hg9 := BF.g9
  generalize hgv : boG a b = g at hg0 hg9
  have ha : Is K W.F (L2.V.int a) (.d (.int a)) := Dp.int _
  have hb : Is K W.F (L2.V.int b) (.d (.int b)) := Dp.int _
  have hn : Is K W.F (L2.V.int n) (.d (.int n)) := Dp.int _
  refine s_asg (m := lawM B C T) (i := bg) (E.is (e_tup (ed_cons (e_tup (ed_cons (e_tup (ed_cons (e_tup (ed_cons e_int ed_nil)) (ed_cons (e_tup (ed_cons (e_v 1 ha) ed_nil)) ed_nil))) (ed_cons (e_tup (ed_cons (e_tup (ed_cons (e_v 2 hb) ed_nil)) (ed_cons (e_tup (ed_cons e_int ed_nil)) ed_nil))) ed_nil))) (ed_cons (e_callD CR (ea_cons (e_v 1 ha) (ea_cons (e_v 2 hb) ea_nil)) ⟨a, b, rfl, by omega, by omega, by omega, rfl⟩) ed_nil))) (show _ = Sv.d (.tuple [oneD (boSt a b), .int (boG a b)]) from rfl)) r ?_
  intro v0 V0 k0 s0 hv0
  rw [hgv] at hv0
  obtain ⟨t0, v4, w5, rfl, ht0, h4, hw5⟩ := dp2 hv0
  have e := Is.int hw5
  subst e
  refine g_tup rfl (sqT_sub V0 ht0) (gs_cons (g_n 4 (gs_cons (g_n 5 (gs_nil ?_))))) rfl
  have hmodn : 0 ≤ n % g ∧ n % g < g := ⟨Int.emod_nonneg _ (by omega), Int.emod_lt_of_pos _ hg0⟩
  have eshape : boShape a b n = ([], n % g, g) := by
    unfold boShape
    rw [hgv]
  have nzD : Nc (encS ([], n % g, g)) := (nz_shape (s := ([], n % g, g)) (fun x hx => by cases hx) (Nat.zero_le _) (show (n % g).natAbs < 10 ^ 12 by omega) (show g.natAbs < 10 ^ 12 by omega)).mono (by decide) (by decide)
  have shp := BF.shp
  have isS := BF.isS
  have clo := BF.clo
  have inn := BF.inn
  rw [eshape] at shp isS clo inn
  refine s_st (m := lawM B C T) (i := bg) 6 (E.is (e_tup (ed_cons (e_tup ed_nil) (ed_cons (e_mod (e_v 3 (hn.le k0)) (e_v 5 hw5) hg0) (ed_cons (e_v 5 hw5) ed_nil)))) (show _ = Sv.d (encS ([], n % g, g)) from rfl)) s0 ?_
  intro v6 V1 k1 s1 h6
  have K1 := k0.trans k1
  have N1 := h4.le k1
  refine s_when (m := lawM B C T) (i := bg) (u := false) (et_not (u := true) (et_val (e_is () CI LY (e_v 6 h6) nzD
    (fun f c' cl => e_callD CSh (ea_cons (e_v 4 N1) (ea_cons (e_v 3 (hn.le K1)) ea_nil)) ⟨_, _, _, rfl, ok n (by omega), shp, rfl⟩)
    (fun f c' cl => e_callKD CSh kw_come_shape (ek_cons (e_v 3 (hn.le K1)) (ek_cons (e_v 4 N1) ek_nil)) rfl ⟨_, _, _, rfl, ok n (by omega), shp, rfl⟩)))) s1 (fun z => nomatch z) (fun _ V2 k2 s2 => ?_)
  have K2 := K1.trans k2
  have N2 := N1.le k2
  have egap : encR (gapsS ([], n % g, g) n) = .tuple [] := by
    have := BF.gaps
    rw [eshape] at this
    rw [this]
    rfl
  have nz0 : Nc (.tuple []) := (nz_tup (k := 0) (n := 0) (N := 0) nz_nil (by simp)).mono (by decide) (Nat.zero_le _)
  refine s_when (m := lawM B C T) (i := bg) (u := false) (et_not (u := true) (et_val (e_is () CI LY (e_tup ed_nil) nz0
    (fun f c' cl => E.is (e_callD CG (ea_cons (e_v 4 N2) (ea_cons (e_v 3 (hn.le K2)) ea_nil)) ⟨_, _, _, rfl, ok n (by omega), shp, (show 0 ≤ g by omega), hmodn.1, (show n % g < 100000 by omega), rfl⟩) (by rw [egap]))
    (fun f c' cl => E.is (e_callKD CG kw_come_gaps (ek_cons (e_v 3 (hn.le K2)) (ek_cons (e_v 4 N2) ek_nil)) rfl ⟨_, _, _, rfl, ok n (by omega), shp, (show 0 ≤ g by omega), hmodn.1, (show n % g < 100000 by omega), rfl⟩) (by rw [egap]))))) s2 (fun z => nomatch z) (fun _ V3 k3 s3 => ?_)
  have K3 := K2.trans k3
  have N3 := N2.le k3
  refine s_st (m := lawM B C T) (i := bg) 7 (e_draw 0 CD e_int (by decide) (by decide)) s3 ?_
  intro v7 V4 k4 s4 h7
  have e := Is.int h7
  subst e
  obtain ⟨hb4, hy0, hy1⟩ := dr_ok r.ok (show (0 : Int) < 301 by decide)
  generalize hyv : (dr bg 301).1 = y at h7 hy0 hy1
  generalize hbv : (dr bg 301).2 = bg4 at s4 hb4
  have K4 := K3.trans k4
  have N4 := N3.le k4
  have w5' := (((hw5.le k1).le k2).le k3).le k4
  have hcm := BF.comes y hy0 (by omega)
  rw [hgv] at hcm
  refine s_when (m := lawM B C T) (i := bg4) (u := false) (et_not (u := true) (et_val (e_is () CI LY (EC.val (c_eqi (e_mod (e_sub (e_v 7 h7) (e_v 3 (hn.le K4))) (e_v 5 w5') hg0) e_int)) (nz_bl _)
    (fun f c' cl => E.is (e_callD CC (ea_cons (e_v 4 N4) (ea_cons (e_v 3 (hn.le K4)) (ea_cons (e_v 7 h7) ea_nil))) ⟨_, _, _, rfl, ok y (by omega), rfl⟩) (by rw [hcm]))
    (fun f c' cl => E.is (e_callKD CC kw_comes_to (ek_cons (e_v 7 h7) (ek_cons (e_v 3 (hn.le K4)) (ek_cons (e_v 4 N4) ek_nil))) rfl ⟨_, _, _, rfl, ok y (by omega), rfl⟩) (by rw [hcm]))))) s4 (fun z => nomatch z) (fun _ V5 k5 s5 => ?_)
  have K5 := K4.trans k5
  have N5 := N4.le k5
  have h75 := h7.le k5
  have w55 := w5'.le k5
  by_cases hpos : 0 < (y - n) % g
  · refine s_when (m := lawM B C T) (i := bg4) (u := true) (EC.tst (EC.eq (c_gt (e_mod (e_sub (e_v 7 h75) (e_v 3 (hn.le K5))) (e_v 5 w55) hg0) e_int) (decide_eq_true hpos))) s5 (fun _ V6 k6 s6 => ?_) (fun z => nomatch z)
    have K6 := K5.trans k6
    have N6 := N5.le k6
    have hi := BF.out y hy0 (by omega) (by rw [hgv]; exact hpos)
    rw [eshape] at hi
    refine s_st (m := lawM B C T) (i := bg4) 8 (E.is (e_tup (ed_cons e_str (ed_cons (e_tup (ed_cons (e_tup ed_nil) (ed_cons (e_mod (e_v 3 (hn.le K6)) (e_v 5 (w55.le k6)) hg0) (ed_cons (e_v 5 (w55.le k6)) ed_nil)))) ed_nil))) (show _ = Sv.d (.tuple [.str "lot", encS ([], n % g, g)]) from rfl)) s6 ?_
    intro v8 V7 k7 s7 h8
    have K7 := K6.trans k7
    have N7 := N6.le k7
    have h77 := (h75.le k6).le k7
    refine s_ret (m := lawM B C T) (i := bg4) (x := .d (.bool true)) (e_is () CI LY (d := .none) e_non nz_non
      (fun f c' cl => e_callD CPE (ea_cons (e_v 4 N7) (ea_cons (e_v 3 (hn.le K7)) (ea_cons (e_v 7 h77) (ea_cons (e_v 8 h8) ea_nil)))) ⟨_, _, _, _, rfl, (ok n (by omega)).l, isS, clo, inn, hi, rfl⟩)
      (fun f c' cl => e_callKD CPE kw_number_paper_error (ek_cons (e_v 8 h8) (ek_cons (e_v 7 h77) (ek_cons (e_v 3 (hn.le K7)) (ek_cons (e_v 4 N7) ek_nil)))) rfl ⟨_, _, _, _, rfl, (ok n (by omega)).l, isS, clo, inn, hi, rfl⟩)) s7 ?_
    intro v V' l' r' hv
    have e := Is.bl hv
    subst e
    exact q bg4 V' (K7.trans l') r'
  · have hz : (y - n) % g = 0 := by
      have := Int.emod_nonneg (y - n) (show g ≠ 0 by omega)
      omega
    obtain ⟨up, down, ws, hhd, hup, hdn, hW, hwl, hwm, hfl⟩ := BF.way y hy0 (by omega) (by rw [hgv]; exact hz)
    refine s_when (m := lawM B C T) (i := bg4) (u := false) (EC.tst (EC.eq (c_gt (e_mod (e_sub (e_v 7 h75) (e_v 3 (hn.le K5))) (e_v 5 w55) hg0) e_int) (decide_eq_false hpos))) s5 (fun z => nomatch z) (fun _ V6 k6 s6 => ?_)
    have K6 := K5.trans k6
    have N6 := N5.le k6
    have h76 := h75.le k6
    refine s_setLcE (m := lawM B C T) (i := bg4) 9 [("up", 10)] (xs := rgI 0 400) (enc := .int) (fun u : Int => decide (y ≤ n + u * a) && decide ((n + u * a - y) % b = 0)) (fun u : Int => enc2 (u, (n + u * a - y) / b)) (ei_rg1E (bi hm) e_int ⟨by decide, by decide⟩) (by rw [rgI_len]; decide) ?_ s6 ?_
    · rintro T0 l0 u hu v T9 hf r9 hv
      have na := (ha.le K6).fl hf
      have nb := (hb.le K6).fl hf
      have nn := (hn.le K6).fl hf
      have ny := h76.fl hf
      exact ⟨_, fun Q hQ => g_n 10 hQ, rfl, ets_one (et_w (ew_and (EC.tst (c_ge (e_add (e_v 3 nn) (e_mul (e_v 10 hv) (e_v 1 na) (.inr ⟨by omega, by omega⟩))) (e_v 7 ny))) (fun _ => ew_and1 (EC.tst (c_eqi (e_mod (e_sub (e_add (e_v 3 nn) (e_mul (e_v 10 hv) (e_v 1 na) (.inr ⟨by omega, by omega⟩))) (e_v 7 ny)) (e_v 2 nb) (by omega)) e_int))))), fun _ => e_tup (ed_cons (e_v 10 hv) (ed_cons (e_fdiv (e_sub (e_add (e_v 3 nn) (e_mul (e_v 10 hv) (e_v 1 na) (.inr ⟨by omega, by omega⟩))) (e_v 7 ny)) (e_v 2 nb) ⟨by omega, by omega⟩) ed_nil))⟩
    · intro qc V7 k7 s7 hmq oc
      have hat : atI (((rgI 0 400).filter fun u : Int => decide (y ≤ n + u * a) && decide ((n + u * a - y) % b = 0)).map fun u : Int => enc2 (u, (n + u * a - y) / b)) 0 = some (.tuple [.int (up : Int), .int (down : Int)]) := by
        have h0 : (boCounts a b n y)[0]? = some ((up : Int), (down : Int)) := by
          rw [← List.head?_eq_getElem?]
          exact hhd
        have h1 := at_map (f := enc2) h0
        unfold boCounts at h1
        rw [List.map_map] at h1
        exact h1
      have K7 := K6.trans k7
      have N7 := N6.le k7
      refine s_asg (m := lawM B C T) (i := bg4) (e_ixR (rl_v 9 oc hmq) e_int hat) s7 ?_
      intro v9 V8 k8 s8 h9
      obtain ⟨t8, w1, w2, rfl, ht8, hw1, hw2⟩ := dp2 h9
      have e1 := Is.int hw1
      have e2 := Is.int hw2
      subst e1 e2
      refine g_tup rfl (sqT_sub V8 ht8) (gs_cons (g_n 10 (gs_cons (g_n 11 (gs_nil ?_))))) rfl
      have K8 := K7.trans k8
      have N8 := N7.le k8
      have h78 := (h76.le k7).le k8
      have efew : lenD (some ws) = .int ((up : Int) + (down : Int)) := by
        simp [lenD, hwl]
      refine s_when (m := lawM B C T) (i := bg4) (u := false) (et_not (u := true) (et_val (e_is () CI LY (e_add (e_v 10 hw1) (e_v 11 hw2)) ((nz_int (by omega)).mono (Nat.zero_le _) (by decide))
        (fun f c' cl => E.is (e_callD CF (ea_cons (e_v 4 N8) (ea_cons (e_v 3 (hn.le K8)) (ea_cons (e_v 7 h78) ea_nil))) ⟨_, _, _, _, rfl, ok y (by omega), hW, rfl⟩) (by rw [efew]))
        (fun f c' cl => E.is (e_callKD CF kw_fewest_to (ek_cons (e_v 7 h78) (ek_cons (e_v 3 (hn.le K8)) (ek_cons (e_v 4 N8) ek_nil))) rfl ⟨_, _, _, _, rfl, ok y (by omega), hW, rfl⟩) (by rw [efew]))))) s8 (fun z => nomatch z) (fun _ V9 k9 s9 => ?_)
      have K9 := K8.trans k9
      have N9 := N8.le k9
      have h79 := h78.le k9
      have eval_ : PyData.tuple ((List.replicate ((up : Int)).toNat [PyData.int 0]).flatten ++ (List.replicate ((down : Int)).toNat [PyData.int 1]).flatten) = .tuple (ksD (List.replicate up 0 ++ List.replicate down 1)) := by
        rw [ksD_app, ← rep_ks, ← rep_ks]
        rfl
      refine s_st (m := lawM B C T) (i := bg4) 8 (E.is (e_catT (e_mulT (e_tup (ed_cons e_int ed_nil)) (e_v 10 (hw1.le k9)) (by simp) ⟨by omega, by omega⟩ (by simp)) (e_mulT (e_tup (ed_cons e_int ed_nil)) (e_v 11 (hw2.le k9)) (by simp) ⟨by omega, by omega⟩ (by simp)) (by simp; omega)) (show _ = Sv.d (.tuple (ksD (List.replicate up 0 ++ List.replicate down 1))) by rw [eval_])) s9 ?_
      intro v8 V10 k10 s10 h8
      have K10 := K9.trans k10
      have N10 := N9.le k10
      have h710 := h79.le k10
      have hks : ∀ k ∈ List.replicate up 0 ++ List.replicate down 1, k < (boSt a b).length := by
        intro k hk
        rcases List.mem_append.mp hk with h | h
        · rw [List.eq_of_mem_replicate h]
          exact (show (0 : Nat) < 2 by decide)
        · rw [List.eq_of_mem_replicate h]
          exact (show (1 : Nat) < 2 by decide)
      have hlen : (List.replicate up 0 ++ List.replicate down 1).length ≤ ws.length := by
        simp [hwl]
      refine s_ret (m := lawM B C T) (i := bg4) (x := .d (.bool true)) (e_is () CI LY (d := .none) e_non nz_non
        (fun f c' cl => e_callD CWE (ea_cons (e_v 4 N10) (ea_cons (e_v 3 (hn.le K10)) (ea_cons (e_v 7 h710) (ea_cons (e_v 8 h8) ea_nil)))) ⟨_, _, _, _, ws, rfl, ok y (by omega), hW, hlen, hwm, hks, hfl, rfl⟩)
        (fun f c' cl => e_callKD CWE kw_way_to_error (ek_cons (e_v 8 h8) (ek_cons (e_v 7 h710) (ek_cons (e_v 3 (hn.le K10)) (ek_cons (e_v 4 N10) ek_nil)))) rfl ⟨_, _, _, _, ws, rfl, ok y (by omega), hW, hlen, hwm, hks, hfl, rfl⟩)) s10 ?_
      intro v V' l' r' hv
      have e := Is.bl hv
      subst e
      exact q bg4 V' (K10.trans l') r'
end
end K38
set_option Elab.async false
set_option linter.all false
set_option maxRecDepth 100000
set_option maxHeartbeats 4000000
namespace K38
open PySem PySem.Spec PyProof.Rows L2 Pv Oc
section
variable {P : Program} {w : World} {K : PySem.W.Frag} {mg : Str → Option Value} {base : Heap} {T : List (Addr × Str)}
abbrev suN : List Str := ["bag", "a", "b", "n", "net", "g", "one", "other", "low", "numbers", "due", "gaps", "many", "y", "counts", "fewest", "far", "value", "way", "x", "j"]
theorem sc_sums : FnScope suN ["bag", "a", "b", "n"] (defScope s__law_are_sums) := ⟨rfl, rfl, rfl, by decide, rfl, by decide, by decide⟩
def suSp (T : List (Addr × Str)) : Spg := fun vs H Q => ∃ (W : Wd) (B C : Addr) (bg : Bag) (a b n : Int), W.H = H ∧ vs = [.ref B, .int a, .int b, .int n] ∧ BagR B C T bg W ∧ 1 ≤ a ∧ a ≤ 9 ∧ 1 ≤ b ∧ b ≤ 9 ∧ 0 ≤ n ∧ n < 200 ∧
  ∀ b' V, Le (lawM B C T).M W V → BagR B C T b' V → Q (.bl true) V.H
theorem cntKs (ws : List Nat) (k : Nat) : ((ws.map fun k : Nat => (k : Int)).count (k : Int) : Nat) = ws.count k := by
  induction ws with
  | nil => rfl
  | cons a ws ih =>
    rw [List.map_cons, List.count_cons, List.count_cons, ih]
    congr 1
    by_cases h : a = k
    · subst h
      simp
    · have h1 : ¬ ((a : Int) = (k : Int)) := by omega
      have h2 : (a == k) = false := beq_eq_false_iff_ne.mpr h
      have h3 : ((a : Int) == (k : Int)) = false := beq_eq_false_iff_ne.mpr h1
      rw [h2, h3]
def optI : Option Int → PD
  | none => .none
  | some m => .int m
theorem min_ex : ∀ l : List Int, l ≠ [] → ∃ m ∈ l, ∀ c ∈ l, m ≤ c
  | [], h => absurd rfl h
  | [a], _ => ⟨a, by simp, fun c hc => by
    have : c = a := by simpa using hc
    omega⟩
  | a :: b :: l, _ => by
    obtain ⟨m, hm, hl⟩ := min_ex (b :: l) (by simp)
    by_cases h : a ≤ m
    · exact ⟨a, List.mem_cons_self, fun c hc => by
        rcases List.mem_cons.mp hc with rfl | hc
        · exact Int.le_refl _
        · exact Int.le_trans h (hl c hc)⟩
    · exact ⟨m, List.mem_cons_of_mem _ hm, fun c hc => by
        rcases List.mem_cons.mp hc with rfl | hc
        · omega
        · exact hl c hc⟩
theorem fn_sums (hm : Md K mg) (L : Lm K mg base T "_law_are_sums" s__law_are_sums "_law_are_sums.<locals>.<lambda>") (math : ∀ a b n : Int, 1 ≤ a → a ≤ 9 → 1 ≤ b → b ≤ 9 → 0 ≤ n → n < 200 → SuF a b n) : Cl P w K mg base 11 "_law_are_sums" s__law_are_sums ["bag", "a", "b", "n"] (suSp T) := by
  have CI := fn_is (P := P) (w := w) (base := base) hm 8
  have CD := fn_draw (P := P) (w := w) (base := base) hm
  have CPk := fn_pick (P := P) (w := w) (base := base) hm
  have CR := fn_shared (P := P) (w := w) (base := base) hm
  have CA := fn_all (P := P) (w := w) (base := base) hm
  have CS := fn_same (P := P) (w := w) (base := base) hm
  have CM := fn_net_measure (P := P) (w := w) (base := base) hm
  have CE := fn_is_endless (P := P) (w := w) (base := base) hm
  have CSh := fn_come_shape (P := P) (w := w) (base := base) hm
  have CG := fn_come_gaps (P := P) (w := w) (base := base) hm
  have CC := fn_comes_to (P := P) (w := w) (base := base) hm
  have CF := fn_fewest_to (P := P) (w := w) (base := base) hm
  have CIn := fn_is_in_shape (P := P) (w := w) (base := base) hm
  have CPE := fn_number_paper_error (P := P) (w := w) (base := base) hm
  have CW := fn_way_to (P := P) (w := w) (base := base) hm
  have CWE := fn_way_to_error (P := P) (w := w) (base := base) hm
  refine .ofL L (fun _ _ _ _ _ _ us hl => match us, hl with | [_, _, _, _], _ => rfl) fun f fd Pt c F hcode TB hTm hTu => fnG_ofC F sc_sums (fun vs H Q ⟨_, _, _, _, _, _, _, _, e, _⟩ => by rw [e]; rfl) ?_
  rintro cdv hcdv A outer s H hr vs Q ⟨W, B, C, bg, a, b, n, rfl, rfl, r, ha1, ha9, hb1, hb9, hn0, hn1, q⟩
  have SF := math a b n ha1 ha9 hb1 hb9 hn0 hn1
  have LY := lamY_d (P := P) (w := w) (K := K) (N := suN) (nd := sc_sums.nd) (x := "_law_are_sums") (sc := defScope s__law_are_sums) (f := f) (cdv := cdv) (A := A) (outer := outer) (s := s) (H := W.H) (k := 10) (hr := hr) (T := T) (hcdv.symm.trans hcode) TB hTm hTu
  have ok : ∀ z, z < 40000 → Ok (suSt a b) n z := fun z hz => ⟨by simp [suSt], suRs ha1 hb1, by omega, hz⟩
  have hg0 := SF.g0
  have hg9 := SF.g9
  have hone := SF.one
  have hlow := SF.low
  have ha : Is K W.F (L2.V.int a) (.d (.int a)) := Dp.int _
  have hb : Is K W.F (L2.V.int b) (.d (.int b)) := Dp.int _
  have hn : Is K W.F (L2.V.int n) (.d (.int n)) := Dp.int _
  refine s_asg (m := lawM B C T) (i := bg) (E.is (e_tup (ed_cons (e_tup (ed_cons (e_tup (ed_cons (e_tup (ed_cons e_int ed_nil)) (ed_cons (e_tup (ed_cons (e_v 1 ha) ed_nil)) ed_nil))) (ed_cons (e_tup (ed_cons (e_tup (ed_cons e_int ed_nil)) (ed_cons (e_tup (ed_cons (e_v 2 hb) ed_nil)) ed_nil))) ed_nil))) (ed_cons (e_callD CR (ea_cons (e_v 1 ha) (ea_cons (e_v 2 hb) ea_nil)) ⟨a, b, rfl, by omega, by omega, by omega, rfl⟩) ed_nil))) (show _ = Sv.d (.tuple [oneD (suSt a b), .int (boG a b)]) from rfl)) r ?_
  intro v0 V0 k0 s0 hv0
  obtain ⟨t0, v4, w5, rfl, ht0, h4, hw5⟩ := dp2 hv0
  have e := Is.int hw5
  subst e
  refine g_tup rfl (sqT_sub V0 ht0) (gs_cons (g_n 4 (gs_cons (g_n 5 (gs_nil ?_))))) rfl
  refine s_par2 (m := lawM B C T) (i := bg) (ea_cons (e_fdiv (e_v 1 (ha.le k0)) (e_v 5 hw5) ⟨hg0, by omega⟩) (ea_cons (e_fdiv (e_v 2 (hb.le k0)) (e_v 5 hw5) ⟨hg0, by omega⟩) ea_nil)) s0 (n1 := 6) (n2 := 7) rfl rfl (by decide) rfl rfl ?_ (xs := [])
  intro v6 v7 V1 k1 s1 h6 h7
  have e1 := Is.int h6
  have e2 := Is.int h7
  subst e1 e2
  refine s_st (m := lawM B C T) (i := bg) 8 (E.is (e_mul (e_mul (e_v 5 (hw5.le k1)) (e_sub (e_v 6 h6) e_int) (.inl ⟨by omega, by omega⟩)) (e_sub (e_v 7 h7) e_int) (.inr ⟨by omega, by omega⟩)) (show _ = Sv.d (.int (suLow a b)) from rfl)) s1 ?_
  intro v8 V2 k2 s2 h8
  have e := Is.int h8
  subst e
  show wSs _ _ _ [some (.ref B), some (.int a), some (.int b), some (.int n), some v4, some (.int (boG a b)), some (.int (a / boG a b)), some (.int (b / boG a b)), some (.int (suLow a b)), none, none, none, none, none, none, none, none, none, none, none, none] V2.H
  have K2 := k0.trans (k1.trans k2)
  refine s_st (m := lawM B C T) (i := bg) 9 (E.is (e_tupL (bi hm) (EL.E (el_sortedD (ks := allS a b (suLow a b) n) (ns := suNums a b n) (bi hm) (E.rd (e_callD CA (ea_cons (e_v 1 (ha.le K2)) (ea_cons (e_v 2 (hb.le K2)) (ea_cons (e_v 8 h8) (ea_cons (e_v 3 (hn.le K2)) ea_nil)))) ⟨_, _, _, _, rfl, by omega, by omega, by omega, by omega, hlow.1, by omega, rfl⟩)) (by simp [encK]) (srt_perm _) (srt_pw _)))) (show _ = Sv.d (rowD (suNums a b n)) from rfl)) s2 ?_
  intro v9 V3 k3 s3 h9
  have K3 := K2.trans k3
  have w53 := (((hw5.le k1).le k2).le k3)
  have h83 := h8.le k3
  refine s_st (m := lawM B C T) (i := bg) 10 (E.is (e_tup (ed_cons (e_v 9 h9) (ed_cons (e_add (e_v 3 (hn.le K3)) (e_v 8 h83)) (ed_cons (e_v 5 w53) ed_nil)))) (show _ = Sv.d (encS (suShape a b n)) from rfl)) s3 ?_
  intro v10 V4 k4 s4 h10
  show wSs _ _ _ [some (.ref B), some (.int a), some (.int b), some (.int n), some v4, some (.int (boG a b)), some (.int (a / boG a b)), some (.int (b / boG a b)), some (.int (suLow a b)), some v9, some v10, none, none, none, none, none, none, none, none, none, none] V4.H
  have K4 := K3.trans k4
  have N4 : Is K V4.F v4 (.d (oneD (suSt a b))) := ((((show Is K V0.F v4 (.d (oneD (suSt a b))) from h4).le k1).le k2).le k3).le k4
  have hNN : ∀ x ∈ suNums a b n, x.natAbs < 10 ^ 12 := fun x hx => by
    have := SF.rng x hx
    omega
  have nzD : Nc (encS (suShape a b n)) := (nz_shape (s := suShape a b n) hNN (by have := SF.len; show (suNums a b n).length ≤ 1000; omega) (show (n + suLow a b).natAbs < 10 ^ 12 by omega) (show (boG a b).natAbs < 10 ^ 12 by omega)).mono (by decide) (by decide)
  refine s_when (m := lawM B C T) (i := bg) (u := false) (et_not (u := true) (et_val (e_is () CI LY (e_v 10 h10) nzD
    (fun f c' cl => e_callD CSh (ea_cons (e_v 4 N4) (ea_cons (e_v 3 (hn.le K4)) ea_nil)) ⟨_, _, _, rfl, ok n (by omega), SF.shp, rfl⟩)
    (fun f c' cl => e_callKD CSh kw_come_shape (ek_cons (e_v 3 (hn.le K4)) (ek_cons (e_v 4 N4) ek_nil)) rfl ⟨_, _, _, rfl, ok n (by omega), SF.shp, rfl⟩)))) s4 (fun z => nomatch z) (fun _ V5 k5 s5 => ?_)
  have K5 := K4.trans k5
  have N5 := N4.le k5
  have w55 := ((w53.le k4).le k5)
  have h85 := ((h83.le k4).le k5)
  have h95 : Is K V5.F v9 (.d (.tuple ((suNums a b n).map .int))) := (h9.le k4).le k5
  obtain ⟨NN, rgc, hNl, hgap, hglen⟩ := SF.rg
  refine s_setLcE (m := lawM B C T) (i := bg) 11 [("x", 19)] (xs := rgS (n % boG a b) (boG a b) NN) (enc := .int) (fun x : Int => !(suNums a b n).contains x) .int (ei_rg3E (bi hm) (e_mod (e_v 3 (hn.le K5)) (e_v 5 w55) hg0) (e_add (e_v 3 (hn.le K5)) (e_v 8 h85)) (e_v 5 w55) rgc) (by rw [rgS_len]; omega) ?_ s5 ?_
  · rintro T0 l0 x hx v T9 hf r9 hv
    exact ⟨_, fun Q hQ => g_n 19 hQ, rfl, ets_one (EC.tst (c_notinT (e_v 19 hv) (e_v 9 (h95.fl hf)))), fun _ => e_v 19 hv⟩
  intro qg V6 k6 s6 hmq og
  have K6 := K5.trans k6
  have N6 := N5.le k6
  have w56 := w55.le k6
  have h66 := ((((h6.le k2).le k3).le k4).le k5).le k6
  have h76 := ((((h7.le k2).le k3).le k4).le k5).le k6
  refine s_st (m := lawM B C T) (i := bg) 12 (e_add (e_fdiv (e_mul (e_sub (e_v 6 h66) e_int) (e_sub (e_v 7 h76) e_int) (.inl ⟨by omega, by omega⟩)) e_int ⟨by decide, by decide⟩) (e_fdiv (e_v 3 (hn.le K6)) (e_v 5 w56) ⟨hg0, by omega⟩)) s6 ?_
  intro v12 V7 k7 s7 h12
  show wSs _ _ _ [some (.ref B), some (.int a), some (.int b), some (.int n), some v4, some (.int (boG a b)), some (.int (a / boG a b)), some (.int (b / boG a b)), some (.int (suLow a b)), some v9, some v10, some (.ref qg), some v12, none, none, none, none, none, none, none, none] V7.H
  have K7 := K6.trans k7
  have N7 := N6.le k7
  have og7 := og.le k7 hmq
  have egl : ∀ x ∈ (rgS (n % boG a b) (boG a b) NN).filter (fun x => !(suNums a b n).contains x), x.natAbs < 10 ^ 12 := fun x hx => by
    have hx2 := (List.mem_filter.mp hx).1
    obtain ⟨k, hk⟩ := List.mem_iff_getElem?.mp hx2
    have hkl : k < NN := by
      have := (List.getElem?_eq_some_iff.mp hk).1
      rwa [rgS_len] at this
    have e := rgS_get hk
    have m1 := Int.emod_nonneg n (show boG a b ≠ 0 by omega)
    have m2 := Int.emod_lt_of_pos n hg0
    have m3 : (k : Int) * boG a b ≤ 1000 * 9 := Int.mul_le_mul (by omega) hg9 (by omega) (by omega)
    have m4 : 0 ≤ (k : Int) * boG a b := Int.mul_nonneg (by omega) (by omega)
    omega
  have nzg : Nc (rowD ((rgS (n % boG a b) (boG a b) NN).filter fun x => !(suNums a b n).contains x)) := (nz_row egl (Nat.le_trans (List.length_filter_le _ _) (by rw [rgS_len]; exact hNl))).mono (by decide) (by decide)
  have egap : encR (gapsS (suShape a b n) n) = rowD ((rgS (n % boG a b) (boG a b) NN).filter fun x => !(suNums a b n).contains x) := by
    rw [hgap]
    rfl
  refine s_when (m := lawM B C T) (i := bg) (u := false) (et_w (ew_or (u := false) (EC.tst (EC.eq (c_nei (e_lenR (bi hm) (rl_v 11 og7 hmq)) (e_v 12 h12)) ?_)) (fun _ => ew_or1 (u := false) (et_not (u := true) (et_val (e_is () CI LY (E.is (e_tupR (bi hm) (rl_v 11 og7 hmq)) (show _ = Sv.d (rowD _) from rfl)) nzg
    (fun f c' cl => E.is (e_callD CG (ea_cons (e_v 4 N7) (ea_cons (e_v 3 (hn.le K7)) ea_nil)) ⟨_, _, _, rfl, ok n (by omega), SF.shp, (show 0 ≤ boG a b by omega), (show 0 ≤ n + suLow a b by omega), (show n + suLow a b < 100000 by omega), rfl⟩) (by rw [egap]))
    (fun f c' cl => E.is (e_callKD CG kw_come_gaps (ek_cons (e_v 3 (hn.le K7)) (ek_cons (e_v 4 N7) ek_nil)) rfl ⟨_, _, _, rfl, ok n (by omega), SF.shp, (show 0 ≤ boG a b by omega), (show 0 ≤ n + suLow a b by omega), (show n + suLow a b < 100000 by omega), rfl⟩) (by rw [egap])))))))) s7 (fun z => nomatch z) (fun _ V8 k8 s8 => ?_)
  · rw [List.length_map, hglen]
    simp
  have K8 := K7.trans k8
  have N8 := N7.le k8
  have w58 := (w56.le k7).le k8
  refine s_when (m := lawM B C T) (i := bg) (u := false) (et_not (u := true) (et_val (e_callD CS (ea_cons (E.is (EL.E (el_lst (ed_cons (e_callD CM (ea_cons (e_v 4 N8) ea_nil) ⟨_, rfl, (ok n (by omega)).l, rfl⟩) (ed_cons (e_callD CE (ea_cons (e_v 4 N8) (ea_cons (e_v 3 (hn.le K8)) ea_nil)) ⟨_, _, rfl, ok n (by omega), rfl⟩) ed_nil)))) (show _ = Sv.d (.list [.int (boG a b), .bool true]) by rw [SF.meas, SF.ends])) (ea_cons (EL.E (el_lst (ed_cons (e_v 5 w58) (ed_cons e_bl ed_nil)))) ea_nil)) ⟨[.int (boG a b), .bool true], rfl, (nz_list (k := 0) (n := 40) (nz_cons (nz_int (by omega)) (nz_cons (nz_bl _) nz_nil)) (Nat.le_refl _)).mono (by decide) (Nat.le_of_ble_eq_true rfl), rfl⟩))) s8 (fun z => nomatch z) (fun _ V9 k9 s9 => ?_)
  have K9 := K8.trans k9
  have N9 := N8.le k9
  have w59 := w58.le k9
  have h89 := (((h85.le k6).le k7).le k8).le k9
  refine s_st (m := lawM B C T) (i := bg) 13 (e_pick (ns := [n + suLow a b, n + suLow a b - boG a b, n + (dr bg 200).1, (dr (dr bg 200).2 300).1]) 0 CPk (EL.E (el_lst (ed_cons (e_add (e_v 3 (hn.le K9)) (e_v 8 h89)) (ed_cons (e_sub (e_add (e_v 3 (hn.le K9)) (e_v 8 h89)) (e_v 5 w59)) (ed_cons (e_add (e_v 3 (hn.le K9)) (e_draw 0 CD e_int (by decide) (by decide))) (ed_cons (e_draw 0 CD e_int (by decide) (by decide)) ed_nil)))))) (by simp) (by simp)) s9 ?_
  intro v13 V10 k10 s10 h13
  have e := Is.int h13
  subst e
  generalize hyv : pickI [n + suLow a b, n + suLow a b - boG a b, n + (dr bg 200).1, (dr (dr bg 200).2 300).1] (dr (dr bg 200).2 300).2 = y at h13
  generalize hbv : (dr (dr (dr bg 200).2 300).2 (([n + suLow a b, n + suLow a b - boG a b, n + (dr bg 200).1, (dr (dr bg 200).2 300).1] : List Int).length : Int)).2 = bk at s10
  show wSs _ _ _ [some (.ref B), some (.int a), some (.int b), some (.int n), some v4, some (.int (boG a b)), some (.int (a / boG a b)), some (.int (b / boG a b)), some (.int (suLow a b)), some v9, some v10, some (.ref qg), some v12, some (.int y), none, none, none, none, none, none, none] V10.H
  have K10 := K9.trans k10
  have N10 := N9.le k10
  refine s_setLcE (m := lawM B C T) (i := bk) 14 [("j", 20)] (xs := rgI 0 301) (enc := .int) (fun j : Int => decide (0 ≤ y - n - j * b) && decide ((y - n - j * b) % a = 0)) (fun j : Int => .int ((y - n - j * b) / a + j)) (ei_rg1E (bi hm) e_int ⟨by decide, by decide⟩) (by rw [rgI_len]; decide) ?_ s10 ?_
  · rintro T0 l0 j hj v T9 hf r9 hv
    have na := (ha.le K10).fl hf
    have nb := (hb.le K10).fl hf
    have nn := (hn.le K10).fl hf
    have ny := h13.fl hf
    exact ⟨_, fun Q hQ => g_n 20 hQ, rfl, ets_one (et_w (ew_and (EC.tst (c_ge (e_sub (e_sub (e_v 13 ny) (e_v 3 nn)) (e_mul (e_v 20 hv) (e_v 2 nb) (.inr ⟨by omega, by omega⟩))) e_int)) (fun _ => ew_and1 (EC.tst (c_eqi (e_mod (e_sub (e_sub (e_v 13 ny) (e_v 3 nn)) (e_mul (e_v 20 hv) (e_v 2 nb) (.inr ⟨by omega, by omega⟩))) (e_v 1 na) (by omega)) e_int))))), fun _ => e_add (e_fdiv (e_sub (e_sub (e_v 13 ny) (e_v 3 nn)) (e_mul (e_v 20 hv) (e_v 2 nb) (.inr ⟨by omega, by omega⟩))) (e_v 1 na) ⟨by omega, by omega⟩) (e_v 20 hv)⟩
  intro qc V11 k11 s11 hmc oc
  have K11 := K10.trans k11
  have N11 := N10.le k11
  have h1311 := h13.le k11
  have oc' : OwnL K V11 qc ((suCounts a b n y).map .int) := by
    unfold suCounts
    rw [List.map_map]
    exact oc
  obtain ⟨fw_, hfw1, hfw2⟩ : ∃ o : Option Int, (suCounts a b n y = [] → o = none) ∧ (suCounts a b n y ≠ [] → ∃ m, o = some m ∧ m ∈ suCounts a b n y ∧ ∀ c ∈ suCounts a b n y, m ≤ c) := by
    by_cases hce : suCounts a b n y = []
    · exact ⟨none, fun _ => rfl, fun h => absurd hce h⟩
    · obtain ⟨m, h1, h2⟩ := min_ex _ hce
      exact ⟨some m, fun h => absurd h hce, fun _ => ⟨m, rfl, h1, h2⟩⟩
  refine s_st (m := lawM B C T) (i := bk) (j := bk) (x := .d (optI fw_)) 15 ?est s11 ?_
  case est =>
    by_cases hce : suCounts a b n y = []
    · refine e_if (u := false) (EC.tst (EC.eq (c_neR (rl_v 14 oc' hmc) (EL.E (el_lst ed_nil)) (shaped_ints _) rfl) ?_)) (fun z => nomatch z) (fun _ => E.is e_non ?_)
      · rw [eqv_nilL, hce]
        rfl
      · rw [hfw1 hce]
        rfl
    · obtain ⟨m, h1, h2, h3⟩ := hfw2 hce
      refine e_if (u := true) (EC.tst (EC.eq (c_neR (rl_v 14 oc' hmc) (EL.E (el_lst ed_nil)) (shaped_ints _) rfl) ?_)) (fun _ => E.is (e_minR (bi hm) (rl_v 14 oc' hmc) h2 h3) ?_) (fun z => nomatch z)
      · rw [eqv_nilL, List.isEmpty_map]
        cases hcc : suCounts a b n y with
        | nil => exact absurd hcc hce
        | cons x l => rfl
      · rw [h1]
        rfl
  intro v15 V12 k12 s12 h15
  show wSs _ _ _ [some (.ref B), some (.int a), some (.int b), some (.int n), some v4, some (.int (boG a b)), some (.int (a / boG a b)), some (.int (b / boG a b)), some (.int (suLow a b)), some v9, some v10, some (.ref qg), some v12, some (.int y), some (.ref qc), some v15, none, none, none, none, none] V12.H
  have K12 := K11.trans k12
  have N12 := N11.le k12
  have h1312 := h1311.le k12
  by_cases hyr : y < 0 ∨ 300 < y
  · refine s_when (m := lawM B C T) (i := bk) (u := true) (et_w (EW.is (ew_or (v := decide (300 < y)) (EC.tst (c_lt (e_v 13 h1312) e_int)) (fun _ => ew_or1 (EC.tst (c_gt (e_v 13 h1312) e_int)))) ?_)) s12 (fun _ V13 k13 s13 => ?_) (fun z => nomatch z)
    · simpa using hyr
    · refine s_ret (m := lawM B C T) (i := bk) e_bl s13 ?_
      intro v V' l' r' hv
      have e := Is.bl hv
      subst e
      exact q bk V' ((K12.trans k13).trans l') r'
  · have hy0 : 0 ≤ y := by omega
    have hy1 : y ≤ 300 := by omega
    refine s_when (m := lawM B C T) (i := bk) (u := false) (et_w (EW.is (ew_or (v := decide (300 < y)) (EC.tst (c_lt (e_v 13 h1312) e_int)) (fun _ => ew_or1 (EC.tst (c_gt (e_v 13 h1312) e_int)))) ?_)) s12 (fun z => nomatch z) (fun _ V13 k13 s13 => ?_)
    · simp
      omega
    have K13 := K12.trans k13
    have N13 := N12.le k13
    have h1313 := h1312.le k13
    have h1513 := h15.le k13
    obtain ⟨o, hW, hlo, hnn⟩ : ∃ o : Option (List Nat), WordIs (risesS (suSt a b)) n y o ∧ optI fw_ = lenD o ∧ (o = none ∧ has (ways (risesS (suSt a b)) n (topS n y)) y = false ∧ inS (suShape a b n) y = false ∨ ∃ ws : List Nat, o = some ws ∧ has (ways (risesS (suSt a b)) n (topS n y)) y = true ∧ fw_ = some (ws.length : Int) ∧ ws.length ≤ 1000 ∧ n + (ws.count 0 : Int) * a + (ws.count 1 : Int) * b = y ∧ faultS (risesS (suSt a b)) y ws.reverse 0 n = .none ∧ ∀ k ∈ ws, k < 2) := by
      by_cases hce : suCounts a b n y = []
      · obtain ⟨h1, h2, h3⟩ := SF.no y hy0 hy1 hce
        exact ⟨none, h1, by rw [hfw1 hce]; rfl, .inl ⟨rfl, h2, h3⟩⟩
      · obtain ⟨ws, h1, h2, h3, h4, h5, h6, h7, h8⟩ := SF.yes y hy0 hy1 hce
        obtain ⟨m, g1, g2, g3⟩ := hfw2 hce
        have em : m = (ws.length : Int) := Int.le_antisymm (g3 _ h3) (h4 _ g2)
        subst em
        exact ⟨some ws, h1, by rw [g1]; rfl, .inr ⟨ws, rfl, h2, g1, h5, h6, h7, h8⟩⟩
    rw [hlo] at h1513
    have nzo : Nc (lenD o) := by
      rcases hnn with ⟨ho, _⟩ | ⟨ws, ho, _, _, hl, _⟩
      · rw [ho]
        exact nz_non
      · rw [ho]
        exact (nz_int (by simp; omega)).mono (Nat.zero_le _) (by decide)
    refine s_when (m := lawM B C T) (i := bk) (u := false) (et_not (u := true) (et_val (e_is () CI LY (e_v 15 h1513) nzo
      (fun f c' cl => e_callD CF (ea_cons (e_v 4 N13) (ea_cons (e_v 3 (hn.le K13)) (ea_cons (e_v 13 h1313) ea_nil))) ⟨_, _, _, _, rfl, ok y (by omega), hW, rfl⟩)
      (fun f c' cl => e_callKD CF kw_fewest_to (ek_cons (e_v 13 h1313) (ek_cons (e_v 3 (hn.le K13)) (ek_cons (e_v 4 N13) ek_nil))) rfl ⟨_, _, _, _, rfl, ok y (by omega), hW, rfl⟩)))) s13 (fun z => nomatch z) (fun _ V14 k14 s14 => ?_)
    have K14 := K13.trans k14
    have N14 := N13.le k14
    have h1314 := h1313.le k14
    have h1514 := h1513.le k14
    have hhas : has (ways (risesS (suSt a b)) n (topS n y)) y = !isNoneD (lenD o) := by
      rcases hnn with ⟨ho, h2, _⟩ | ⟨ws, ho, h2, _⟩
      · rw [ho, h2]
        rfl
      · rw [ho, h2]
        rfl
    refine s_when (m := lawM B C T) (i := bk) (u := false) (et_not (u := true) (et_val (e_is () CI LY (EC.val (c_notN (e_v 15 h1514))) (nz_bl _)
      (fun f c' cl => E.is (e_callD CC (ea_cons (e_v 4 N14) (ea_cons (e_v 3 (hn.le K14)) (ea_cons (e_v 13 h1314) ea_nil))) ⟨_, _, _, rfl, ok y (by omega), rfl⟩) (by rw [hhas]))
      (fun f c' cl => E.is (e_callKD CC kw_comes_to (ek_cons (e_v 13 h1314) (ek_cons (e_v 3 (hn.le K14)) (ek_cons (e_v 4 N14) ek_nil))) rfl ⟨_, _, _, rfl, ok y (by omega), rfl⟩) (by rw [hhas]))))) s14 (fun z => nomatch z) (fun _ V15 k15 s15 => ?_)
    have K15 := K14.trans k15
    have N15 := N14.le k15
    have w515 := (((((w59.le k10).le k11).le k12).le k13).le k14).le k15
    have h815 := (((((h89.le k10).le k11).le k12).le k13).le k14).le k15
    have hng : Is K V15.F (L2.V.int n) (.d (.int n)) := Dp.int _
    have h1015 := (((((((((((h10.le k5).le k6).le k7).le k8).le k9).le k10).le k11).le k12).le k13).le k14).le k15)
    have h1515 := h1514.le k15
    have h1315 := h1314.le k15
    have hp20 : (0 : Int) < 10 ^ (20 : Int).toNat := by decide
    refine s_st (m := lawM B C T) (i := bk) 16 (e_add (e_add (e_add (e_v 3 hng) (e_v 8 h815)) (e_mul (e_v 5 w515) (e_draw 0 CD (e_pow e_int e_int ⟨by decide, by decide, by decide⟩) hp20 (by decide)) (.inl ⟨by omega, by omega⟩))) (e_draw 0 CD (e_v 5 w515) hg0 (log2_small (by omega)))) s15 ?_
    intro v16 V16 k16 s16 h16
    have e := Is.int h16
    subst e
    obtain ⟨ok1, d10, _⟩ := dr_ok s15.ok hp20
    obtain ⟨_, d20, _⟩ := dr_ok ok1 hg0
    have hge : n + suLow a b ≤ n + suLow a b + boG a b * (dr bk (10 ^ (20 : Int).toNat)).1 + (dr (dr bk (10 ^ (20 : Int).toNat)).2 (boG a b)).1 := by
      have : 0 ≤ boG a b * (dr bk (10 ^ (20 : Int).toNat)).1 := Int.mul_nonneg (by omega) d10
      omega
    have hfar := SF.far _ hge
    generalize n + suLow a b + boG a b * (dr bk (10 ^ (20 : Int).toNat)).1 + (dr (dr bk (10 ^ (20 : Int).toNat)).2 (boG a b)).1 = x at h16 hge hfar
    generalize (dr (dr bk (10 ^ (20 : Int).toNat)).2 (boG a b)).2 = bj at s16
    show wSs _ _ _ [some (.ref B), some (.int a), some (.int b), some (.int n), some v4, some (.int (boG a b)), some (.int (a / boG a b)), some (.int (b / boG a b)), some (.int (suLow a b)), some v9, some v10, some (.ref qg), some v12, some (.int y), some (.ref qc), some v15, some (.int x), none, none, none, none] V16.H
    have K16 := K15.trans k16
    have N16 := N15.le k16
    have w516 := w515.le k16
    have h1016 := h1015.le k16
    have h1316 := h1315.le k16
    have h1516 := h1515.le k16
    refine s_when (m := lawM B C T) (i := bj) (u := false) (et_not (u := true) (et_val (e_is () CI LY (EC.val (c_eqi (e_mod (e_sub (e_v 16 h16) (e_v 3 (hn.le K16))) (e_v 5 w516) hg0) e_int)) (nz_bl _)
      (fun f c' cl => E.is (e_callD CIn (ea_cons (e_v 10 h1016) (ea_cons (e_v 16 h16) ea_nil)) ⟨suShape a b n, _, rfl, rfl⟩) (by rw [hfar]))
      (fun f c' cl => E.is (e_callKD CIn kw_is_in_shape (ek_cons (e_v 16 h16) (ek_cons (e_v 10 h1016) ek_nil)) rfl ⟨suShape a b n, _, rfl, rfl⟩) (by rw [hfar]))))) s16 (fun z => nomatch z) (fun _ V17 k17 s17 => ?_)
    have K17 := K16.trans k17
    have N17 := N16.le k17
    have h1017 := h1016.le k17
    have h1317 := h1316.le k17
    have h1517 := h1516.le k17
    rcases hnn with ⟨ho, _, hi⟩ | ⟨ws, ho, _, _, hwl, hsum, hfl, hks⟩
    · subst ho
      have h1517' : Is K V17.F v15 (.d .none) := h1517
      refine s_when (m := lawM B C T) (i := bj) (u := true) (EC.tst (EC.eq (c_isN (e_v 15 h1517')) rfl)) s17 (fun _ V18 k18 s18 => ?_) (fun z => nomatch z)
      refine s_st (m := lawM B C T) (i := bj) 17 (e_tup (ed_cons e_str (ed_cons (e_v 10 (h1017.le k18)) ed_nil))) s18 ?_
      intro v17 V19 k19 s19 h17
      have K19 := (K17.trans k18).trans k19
      have N19 := (N17.le k18).le k19
      have h1319 := (h1317.le k18).le k19
      refine s_ret (m := lawM B C T) (i := bj) (x := .d (.bool true)) (e_is () CI LY (d := .none) e_non nz_non
        (fun f c' cl => e_callD CPE (ea_cons (e_v 4 N19) (ea_cons (e_v 3 (hn.le K19)) (ea_cons (e_v 13 h1319) (ea_cons (e_v 17 h17) ea_nil)))) ⟨_, _, _, suShape a b n, rfl, (ok n (by omega)).l, SF.isS, SF.clo, SF.inn, hi, rfl⟩)
        (fun f c' cl => e_callKD CPE kw_number_paper_error (ek_cons (e_v 17 h17) (ek_cons (e_v 13 h1319) (ek_cons (e_v 3 (hn.le K19)) (ek_cons (e_v 4 N19) ek_nil)))) rfl ⟨_, _, _, suShape a b n, rfl, (ok n (by omega)).l, SF.isS, SF.clo, SF.inn, hi, rfl⟩)) s19 ?_
      intro v V' l' r' hv
      have e := Is.bl hv
      subst e
      exact q bj V' (K19.trans l') r'
    · subst ho
      have h1517' : Is K V17.F v15 (.d (.int (ws.length : Int))) := h1517
      refine s_when (m := lawM B C T) (i := bj) (u := false) (EC.tst (EC.eq (c_isN (e_v 15 h1517')) rfl)) s17 (fun z => nomatch z) (fun _ V18 k18 s18 => ?_)
      have K18 := K17.trans k18
      have N18 := N17.le k18
      refine s_st (m := lawM B C T) (i := bj) 18 (e_callD CW (ea_cons (e_v 4 N18) (ea_cons (e_v 3 (hn.le K18)) (ea_cons (e_v 13 (h1317.le k18)) ea_nil))) ⟨_, _, _, _, rfl, ok y (by omega), hW, rfl⟩) s18 ?_
      intro v18 V19 k19 s19 h18
      show wSs _ _ _ [some (.ref B), some (.int a), some (.int b), some (.int n), some v4, some (.int (boG a b)), some (.int (a / boG a b)), some (.int (b / boG a b)), some (.int (suLow a b)), some v9, some v10, some (.ref qg), some v12, some (.int y), some (.ref qc), some v15, some (.int x), none, some v18, none, none] V19.H
      have K19 := K18.trans k19
      have N19 := N18.le k19
      have h1319 := (h1317.le k18).le k19
      have h1519 := (h1517'.le k18).le k19
      have h18p : Is K V19.F v18 (.pt ((ws.map fun k : Nat => (k : Int)).map .int)) := by
        rw [← ksD_ints]
        exact h18
      have ct0 : ((ws.map fun k : Nat => (k : Int)).count 0 : Nat) = ws.count 0 := cntKs ws 0
      have ct1 : ((ws.map fun k : Nat => (k : Int)).count 1 : Nat) = ws.count 1 := cntKs ws 1
      refine s_when (m := lawM B C T) (i := bj) (u := false) (et_w (ew_or (u := false) (EC.tst (EC.eq (c_nei (e_lenT (bi hm) (E.ptT (e_v 18 h18))) (e_v 15 h1519)) (by simp [ksD]))) (fun _ => ew_or1 (u := false) (EC.tst (EC.eq (c_nei (e_add (e_add (e_v 3 (hn.le K19)) (e_mul (e_count (e_v 18 h18p) e_int) (e_v 1 (ha.le K19)) (.inr ⟨by omega, by omega⟩))) (e_mul (e_count (e_v 18 h18p) e_int) (e_v 2 (hb.le K19)) (.inr ⟨by omega, by omega⟩))) (e_v 13 h1319)) (by rw [ct0, ct1, hsum]; simp)))))) s19 (fun z => nomatch z) (fun _ V20 k20 s20 => ?_)
      have K20 := K19.trans k20
      have N20 := N19.le k20
      have h1320 := h1319.le k20
      have h1820 := h18.le k20
      have hks' : ∀ k ∈ ws.reverse, k < (suSt a b).length := fun k hk => hks k (List.mem_reverse.mp hk)
      refine s_ret (m := lawM B C T) (i := bj) (x := .d (.bool true)) (e_is () CI LY (d := .none) e_non nz_non
        (fun f c' cl => e_callD CWE (ea_cons (e_v 4 N20) (ea_cons (e_v 3 (hn.le K20)) (ea_cons (e_v 13 h1320) (ea_cons (E.is (e_revT (E.ptT (e_v 18 h1820))) (show _ = Sv.d (.tuple (ksD ws.reverse)) by rw [ksD_rev])) ea_nil)))) ⟨_, _, _, _, ws, rfl, ok y (by omega), hW, by simp, by omega, hks', hfl, rfl⟩)
        (fun f c' cl => e_callKD CWE kw_way_to_error (ek_cons (E.is (e_revT (E.ptT (e_v 18 h1820))) (show _ = Sv.d (.tuple (ksD ws.reverse)) by rw [ksD_rev])) (ek_cons (e_v 13 h1320) (ek_cons (e_v 3 (hn.le K20)) (ek_cons (e_v 4 N20) ek_nil)))) rfl ⟨_, _, _, _, ws, rfl, ok y (by omega), hW, by simp, by omega, hks', hfl, rfl⟩)) s20 ?_
      intro v V' l' r' hv
      have e := Is.bl hv
      subst e
      exact q bj V' (K20.trans l') r'
end
end K38
set_option Elab.async false
set_option linter.all false
set_option maxRecDepth 100000
set_option maxHeartbeats 4000000
namespace Pv
open PySem PySem.Spec PyProof.Rows L2
/-- a mode, its index forgotten -/
def mx (m : Mode) : Mode where
  ι := Unit
  M := m.M
  R := fun _ W => ∃ i, m.R i W
  st := fun _ W V ⟨i, r⟩ h hf => ⟨i, m.st i W V r h hf⟩
  al := fun _ W ⟨i, r⟩ a ha => m.al i W r a ha
  pt := fun _ W l o u h ⟨i, r⟩ hm hl ho => ⟨i, m.pt i W l o u h r hm hl ho⟩
section
variable {m : Mode} {Y : Fam} {σ : L2.St} {W : Wd} {s : Str} {p pos : Pos} {e : Expr} {es : List Expr}
/-- a call of a def of the law: it gives True, the resource is some other one -/
theorem e_lawcall {q : Nat} {st : Stmt} {ps : List Str} {sp : Spg} {P : m.ι → Wd → List V → Wd → Prop} {j : m.ι → m.ι} (C : Cl Y.P Y.w Y.K Y.mg Y.base q s st ps sp) (ha : ∀ i, EAG m Y σ W i (e :: es) (P i) (j i))
    (hsp : ∀ i U vs T, Le m.M W U → m.R i U → Le m.M U T → m.R (j i) T → P i U vs T → ∀ Q : VK, (∀ b' V, Le m.M T V → m.R b' V → Q (.bl true) V.H) → sp vs T.H Q) (hq : q ≤ Y.k := by exact Nat.le_of_ble_eq_true rfl) (hg : Gb Y s := by rfl) (hdb : (s == ("__debug__" : Str)) = false := by decide)
    (he : ∀ a, starEach (e :: es) (Y.X a).env = (false, eval e (Y.X a).env) :: starEach es (Y.X a).env := by intro _; rfl) (hpl : ∀ a, (backTo pos (starEach es (Y.X a).env)).any (·.1) = false := by intro _; rfl) :
    E (mx m) Y σ W () (.Call (.Name s p) (e :: es) [] pos) (.d (.bool true)) () := by
  obtain ⟨f, fd, h1, h2, h3⟩ := C.ex
  rintro U l ⟨i, r⟩ Q z
  exact ⟨fun σ H Q => wA Y (e :: es) σ H fun vs H1 => sp vs H1 Q, fun a => pe_callG (by rw [Y.hP, Y.hw, Y.hK, Y.hmg, Y.hbase]; exact h3) ((Y.hr a).mono hq) (hg.gl a) (by rw [Y.hmg]; exact h1) (by rw [Y.hK]; exact h2.kp) (by rw [Y.hK]; exact h2.bindsN C.b) (wA_ok a) hdb (he a) (hpl a),
    ha i U l r _ fun vs T l1 r1 p1 => hsp i U vs T l r l1 r1 p1 Q fun b' V l2 r2 => z _ V (l1.trans l2) ⟨b', r2⟩ (Dp.bl _)⟩
end
end Pv
set_option Elab.async false
set_option linter.all false
set_option maxRecDepth 100000
set_option maxHeartbeats 4000000
namespace K38
open PySem PySem.Spec PyProof.Rows L2 Pv Oc
section
variable {P : Program} {w : World} {K : PySem.W.Frag} {mg : Str → Option Value} {base : Heap} {T : List (Addr × Str)}
theorem sc_law : FnScope ["script", "bag", "turn", "a", "b", "n"] ["script"] (defScope s_law) := ⟨rfl, rfl, rfl, by decide, rfl, by decide, by decide⟩
def lawSp (K : PySem.W.Frag) (T : List (Addr × Str)) : Spg := fun vs H Q => ∃ (W : Wd) (v : V) (ns : List Int), W.H = H ∧ vs = [v] ∧ Is K W.F v (.d (.list (ns.map .int))) ∧ LamX.Tabs T W.H ∧ (∀ p ∈ T, W.F p.1 = none) ∧ ∀ H', Q (.bl true) H'
theorem fn_law (hm : Md K mg) (hlaw : Fd K mg "law" s_law) (L1 : Lm K mg base T "_law_is_emptied" s__law_is_emptied "_law_is_emptied.<locals>.<lambda>") (L2 : Lm K mg base T "_law_is_both" s__law_is_both "_law_is_both.<locals>.<lambda>") (L3 : Lm K mg base T "_law_are_sums" s__law_are_sums "_law_are_sums.<locals>.<lambda>")
    (m1 : ∀ a want n : Int, 1 ≤ a → a ≤ want → want ≤ 9 → 0 ≤ n → n < 200 → EmF a want n) (m2 : ∀ a b n : Int, 1 ≤ a → a ≤ 9 → 1 ≤ b → b ≤ 9 → 0 ≤ n → n < 200 → BoF a b n) (m3 : ∀ a b n : Int, 1 ≤ a → a ≤ 9 → 1 ≤ b → b ≤ 9 → 0 ≤ n → n < 200 → SuF a b n) :
    Cl P w K mg base 12 "law" s_law ["script"] (lawSp K T) := by
  have CB := fn_own_bag (P := P) (w := w) (base := base) hm
  have CD := fn_draw (P := P) (w := w) (base := base) hm
  have CPk := fn_pick (P := P) (w := w) (base := base) hm
  have CS := fn_sums (P := P) (w := w) (base := base) hm L3 m3
  have CE := fn_emptied (P := P) (w := w) (base := base) hm L1 m1
  have CO := fn_both (P := P) (w := w) (base := base) hm L2 m2
  refine .of hlaw (fun _ _ _ _ _ _ us hl => match us, hl with | [_], _ => rfl) fun f fd F => fnG_of F sc_law (fun vs H Q ⟨_, _, _, _, e, _⟩ => by rw [e]; rfl) ?_
  rintro cdv A outer s H hr vs Q ⟨W, v, ns, rfl, rfl, hv, hT, hTF, q⟩
  refine s_stG (m := m0) (i := ()) 1 (eg_callS (P' := fun U v T' => ∃ B C b, v = .ref B ∧ U.H B = none ∧ U.H C = none ∧ T'.F B = none ∧ T'.F C = none ∧ T'.H B = some (.lst [.ref C, .int b.hi, .int b.mix]) ∧ T'.H C = some (.lst (b.cells.map .int)) ∧ B ≠ C ∧ BagOk b) CB (eg_cons (e_v 0 hv) eg_nil) ?_) True.intro ?_
  · rintro U vs T1 l1 l2 _ ⟨_, _, Ta, rfl, la, hva, lb, rfl⟩ Q' z
    refine ⟨T1, _, ns, rfl, rfl, hva.le lb, fun B C T2 b l3 g1 g2 g3 g4 g5 g6 g7 g8 => z _ T2 l3 ⟨B, C, b, rfl, l2.back g1, l2.back g2, g3, g4, g5, g6, g7, g8⟩⟩
  rintro _ V1 k1 _ ⟨B, C, b, rfl, g1, g2, g3, g4, g5, g6, g7, g8⟩
  have r1 : BagR B C T b V1 := ⟨g3, g4, g5, g6, g7, g8, hT.ext (fun a o e => k1.h a o (fun z => z) e), fun p hp => by
    obtain ⟨ps, e, _⟩ := hT p hp
    exact k1.n _ (hTF p hp) (by rw [e]; exact fun z => nomatch z)⟩
  show wSs _ _ _ [some v, some (.ref B), none, none, none, none] V1.H
  refine s_forE (m := lawM B C T) (i := b) (j := b) (xs := rgI 0 3) (enc := .int) (fun T0 done σ' T' c => ∃ (a1 a2 a3 a4 : Option V), σ' = [some v, some (.ref B), a1, a2, a3, a4]) (ei_rg1E (bi hm) e_int ⟨by decide, by decide⟩) r1 (fun T0 l0 r0 => ⟨_, _, _, _, rfl⟩) ?_ ?_
  · rintro T0 l0 done t todo hx _ T3 c f3 r3 ⟨a1, a2, a3, a4, rfl⟩ vx T4 l4 r4 hvx
    refine g_n 2 ?_
    refine s_par2 (m := lawM B C T) (i := c) (ea_cons (e_add e_int (e_draw 1 CD e_int (by decide) (by decide))) (ea_cons (e_add e_int (e_draw 1 CD e_int (by decide) (by decide))) ea_nil)) r4 (n1 := 3) (n2 := 4) rfl rfl (by decide) rfl rfl ?_ (xs := [])
    intro u3 u4 V5 k5 r5 h3 h4
    have e1 := Is.int h3
    have e2 := Is.int h4
    subst e1 e2
    obtain ⟨ok1, p0, p1⟩ := dr_ok (below := 9) r4.ok (by decide)
    obtain ⟨ok2, p2, p3⟩ := dr_ok (below := 9) ok1 (by decide)
    generalize ha : 1 + (dr c 9).1 = a at h3
    generalize hb : 1 + (dr (dr c 9).2 9).1 = bb at h4
    generalize hc : (dr (dr c 9).2 9).2 = c2 at r5 ok2
    have a1' : 1 ≤ a ∧ a ≤ 9 := by omega
    have b1' : 1 ≤ bb ∧ bb ≤ 9 := by omega
    refine s_st (m := lawM B C T) (i := c2) 5 (e_pick (ns := [0, (dr c2 20).1, (dr (dr c2 20).2 200).1]) 1 CPk (EL.E (el_lst (ed_cons e_int (ed_cons (e_draw 1 CD e_int (by decide) (by decide)) (ed_cons (e_draw 1 CD e_int (by decide) (by decide)) ed_nil))))) (by simp) (by simp)) r5 ?_
    intro u5 V6 k6 r6 h5
    have e := Is.int h5
    subst e
    obtain ⟨ok3, n0, n1⟩ := dr_ok (below := 20) ok2 (by decide)
    obtain ⟨ok4, n2, n3⟩ := dr_ok (below := 200) ok3 (by decide)
    have hpk := (pickI_mem (ns := [0, (dr c2 20).1, (dr (dr c2 20).2 200).1]) ok4 (by simp)).1
    have hmem := List.mem_of_getElem? hpk
    generalize hn : pickI [0, (dr c2 20).1, (dr (dr c2 20).2 200).1] (dr (dr c2 20).2 200).2 = n at h5 hmem
    have n1' : 0 ≤ n ∧ n < 200 := by
      rcases List.mem_cons.mp hmem with e | hmem
      · omega
      · rcases List.mem_cons.mp hmem with e | hmem
        · omega
        · have e : n = (dr (dr c2 20).2 200).1 := by simpa using hmem
          omega
    generalize (dr (dr (dr c2 20).2 200).2 (([0, (dr c2 20).1, (dr (dr c2 20).2 200).1] : List Int).length : Int)).2 = c3 at r6
    show wSs _ _ _ [some v, some (.ref B), some vx, some (.int a), some (.int bb), some (.int n)] V6.H
    have h36 := h3.le k6
    have h46 := h4.le k6
    refine s_when (m := mx (lawM B C T)) (i := ()) (u := false) (et_w (ew_or (u := false) (et_not (u := true) (et_val (e_lawcall CS (fun i => eg_cons (e_vat 1) (eg_cons (e_v 3 h36) (eg_cons (e_v 4 h46) (eg_cons (e_v 5 h5) eg_nil)))) ?_))) (fun _ => ew_or1 (u := false) (et_not (u := true) (et_val (e_lawcall CE (fun i => eg_cons (e_vat 1) (eg_cons (e_v 3 h36) (eg_cons (e_min2 (bi hm) e_int (e_add (e_v 3 h36) (e_draw 1 CD e_int (by decide) (by decide)))) (eg_cons (e_v 5 h5) eg_nil)))) ?_)))))) ⟨_, r6⟩ (fun z => nomatch z) (fun _ V7 k7 r7 => ?_)
    · rintro i U vs T5 l5 r5 l6 r6 ⟨_, _, Ta, rfl, la, rfl, lb, _, _, Tb, rfl, lc, x1, ld, _, _, Tc, rfl, le, x2, lf, _, _, Td, rfl, lg, x3, lh, rfl⟩ Q' z
      have e1 := Is.int x1
      have e2 := Is.int x2
      have e3 := Is.int x3
      subst e1 e2 e3
      exact ⟨T5, B, C, i, a, bb, n, rfl, rfl, r6, a1'.1, a1'.2, b1'.1, b1'.2, n1'.1, n1'.2, z⟩
    · rintro i U vs T5 l5 r5 l6 r6 ⟨_, _, Ta, rfl, la, rfl, lb, _, _, Tb, rfl, lc, x1, ld, _, _, Tc, rfl, le, x2, lf, _, _, Td, rfl, lg, x3, lh, rfl⟩ Q' z
      have e1 := Is.int x1
      have e2 := Is.int x2
      have e3 := Is.int x3
      subst e1 e2 e3
      obtain ⟨_, w0, w1⟩ := dr_ok (below := 4) (show BagOk i from r5.ok) (by decide)
      refine ⟨T5, B, C, _, a, _, n, rfl, rfl, r6, a1'.1, ?_, ?_, n1'.1, n1'.2, z⟩
      · split <;> omega
      · split <;> omega
    · have h37 := h36.le k7
      have h47 := h46.le k7
      have h57 := h5.le k7
      refine s_when (m := mx (lawM B C T)) (i := ()) (u := false) (et_not (u := true) (et_val (e_lawcall CO (fun i => eg_cons (e_vat 1) (eg_cons (e_v 3 h37) (eg_cons (e_v 4 h47) (eg_cons (e_v 5 h57) eg_nil)))) ?_))) r7 (fun z => nomatch z) (fun _ V8 k8 r8 => ?_)
      · rintro i U vs T5 l5 r5 l6 r6 ⟨_, _, Ta, rfl, la, rfl, lb, _, _, Tb, rfl, lc, x1, ld, _, _, Tc, rfl, le, x2, lf, _, _, Td, rfl, lg, x3, lh, rfl⟩ Q' z
        have e1 := Is.int x1
        have e2 := Is.int x2
        have e3 := Is.int x3
        subst e1 e2 e3
        exact ⟨T5, B, C, i, a, bb, n, rfl, rfl, r6, a1'.1, a1'.2, b1'.1, b1'.2, n1'.1, n1'.2, z⟩
      · obtain ⟨c9, r9⟩ := r8
        exact s_nil ⟨V8, c9, rfl, f3.trans (l4.fl.trans (k5.fl.trans (k6.fl.trans (k7.fl.trans k8.fl)))), r9, _, _, _, _, rfl⟩
  · rintro T0 l0 _ T3 c f3 r3 ⟨a1, a2, a3, a4, rfl⟩
    refine s_ret (m := lawM B C T) (i := c) e_bl r3 ?_
    intro v' V' l' r' hv'
    have e := Is.bl hv'
    subst e
    exact q V'.H
end
end K38
set_option Elab.async false
set_option linter.all false
set_option maxRecDepth 100000
set_option maxHeartbeats 4000000
/-! one place that is emptied -/
namespace Oc
open PySem PySem.Spec PyProof.Rows L2 Pv
def stepsF (a want : Int) : Nat → Int → Fo
  | 0, _ => []
  | q + 1, x => if want ≤ x then (x - a, some (x, 0)) :: stepsF a want q (x - a) else []
theorem emRs_eq (a want : Int) : risesS (emSt a want) = [(want, -a)] := by
  simp [risesS, emSt]
  omega
theorem has_false {f : Fo} {x : Int} (h : ∀ p ∈ f, p.1 ≠ x) : has f x = false := by
  cases e : has f x with
  | false => rfl
  | true =>
    obtain ⟨p, hp, e2⟩ := List.mem_map.mp (has_mem.mp e)
    exact absurd e2 (h p hp)
theorem em_level {a want top x : Int} {f : Fo} (ha : 1 ≤ a) (hx : x ≤ top) (hf : ∀ p ∈ f, x ≤ p.1) : level [(want, -a)] top f [x] = if want ≤ x then (f ++ [(x - a, some (x, 0))], [x - a]) else (f, []) := by
  have hh : has f (x + -a) = false := has_false fun p hp e => by
    have := hf p hp
    omega
  show inner top x (f, []) ((want, -a), 0) = _
  unfold inner
  by_cases h : want ≤ x
  · have h2 : x + -a ≤ top := by omega
    have h3 : x + -a = x - a := by omega
    simp [h, h2, hh]
    simp [h3]
  · simp [h]
theorem em_bfs {a want top : Int} (ha : 1 ≤ a) : ∀ (q : Nat) (x : Int) (f : Fo), x ≤ top → (∀ p ∈ f, x ≤ p.1) → bfs [(want, -a)] top q f [x] = f ++ stepsF a want q x
  | 0, x, f, _, _ => by simp [bfs, stepsF]
  | q + 1, x, f, hx, hf => by
    have hne : ([x] : List Int) ≠ [] := by simp
    have e : bfs [(want, -a)] top (q + 1) f [x] = bfs [(want, -a)] top q (level [(want, -a)] top f [x]).1 (level [(want, -a)] top f [x]).2 := by
      rw [bfs, if_neg hne]
    rw [e, em_level ha hx hf]
    by_cases h : want ≤ x
    · rw [if_pos h]
      simp only
      rw [em_bfs ha q (x - a) _ (by omega) (fun p hp => by
        rcases List.mem_append.mp hp with hp | hp
        · have := hf p hp
          omega
        · have : p = (x - a, some (x, 0)) := by simpa using hp
          rw [this]
          exact Int.le_refl _)]
      rw [stepsF, if_pos h, List.append_assoc]
      rfl
    · rw [if_neg h]
      simp only
      rw [bfs_nil, stepsF, if_neg h, List.append_nil]
/-- the fuel is of no weight -/
theorem em_fuel {a want : Int} (ha : 1 ≤ a) (hw : 1 ≤ want) : ∀ (q q' : Nat) (x : Int), x.toNat < q → x.toNat < q' → stepsF a want q x = stepsF a want q' x
  | 0, _, x, h, _ => absurd h (Nat.not_lt_zero _)
  | _ + 1, 0, x, _, h => absurd h (Nat.not_lt_zero _)
  | q + 1, q' + 1, x, h, h' => by
    rw [stepsF, stepsF]
    by_cases hx : want ≤ x
    · rw [if_pos hx, if_pos hx, em_fuel ha hw q q' (x - a) (by omega) (by omega)]
    · rw [if_neg hx, if_neg hx]
theorem em_nums {a want : Int} : ∀ (q : Nat) (x : Int), numsS a want q x = (stepsF a want q x).map (·.1)
  | 0, _ => rfl
  | q + 1, x => by
    rw [numsS, stepsF]
    by_cases hx : want ≤ x
    · rw [if_pos hx, if_neg (by omega), List.map_cons, em_nums q (x - a)]
    · rw [if_neg hx, if_pos (by omega)]
      rfl
theorem em_ways {a want n top : Int} (ha : 1 ≤ a) (hw : 1 ≤ want) (hn : 0 ≤ n) (hn2 : n < 200) (ht : n ≤ top) : ways (risesS (emSt a want)) n top = (n, none) :: stepsF a want 300 n := by
  rw [emRs_eq]
  unfold ways
  rw [em_bfs ha _ n _ ht (fun p hp => by
    have : p = (n, none) := by simpa using hp
    rw [this]
    exact Int.le_refl _), em_fuel ha hw (top.toNat + 3) 300 n (by omega) (by omega)]
  rfl
theorem em_keys {a want n top : Int} (ha : 1 ≤ a) (hw : 1 ≤ want) (hn : 0 ≤ n) (hn2 : n < 200) (ht : n ≤ top) : keysF (ways (risesS (emSt a want)) n top) = emN a want n := by
  rw [em_ways ha hw hn hn2 ht, emN, em_nums]
  rfl
/-- the numbers that come -/
theorem em_mem {a want : Int} (ha : 1 ≤ a) (haw : a ≤ want) : ∀ (q : Nat) (x y : Int), x.toNat < q → (y ∈ numsS a want q x ↔ ∃ k : Nat, y = x - (k + 1) * a ∧ want ≤ x - k * a)
  | 0, x, y, h => absurd h (Nat.not_lt_zero _)
  | q + 1, x, y, h => by
    rw [numsS]
    by_cases hx : x < want
    · rw [if_pos hx]
      constructor
      · intro z
        cases z
      · rintro ⟨k, _, h2⟩
        have : 0 ≤ (k : Int) * a := Int.mul_nonneg (by omega) (by omega)
        omega
    · rw [if_neg hx, List.mem_cons]
      by_cases hxa : (x - a).toNat < q
      · rw [em_mem ha haw q (x - a) y hxa]
        constructor
        · rintro (rfl | ⟨k, h1, h2⟩)
          · exact ⟨0, by simp, by simp; omega⟩
          · refine ⟨k + 1, ?_, ?_⟩
            · rw [h1]
              push_cast
              rw [Int.add_mul ((k : Int) + 1) 1 a]
              omega
            · have e : ((k + 1 : Nat) : Int) * a = k * a + a := by
                push_cast
                rw [Int.add_mul]
                omega
              omega
        · rintro ⟨k, h1, h2⟩
          cases k with
          | zero =>
            left
            rw [h1]
            simp
          | succ k =>
            right
            have e : ((k + 1 : Nat) : Int) * a = k * a + a := by
              push_cast
              rw [Int.add_mul]
              omega
            refine ⟨k, ?_, by omega⟩
            rw [h1]
            have e2 : (((k + 1 : Nat) : Int) + 1) * a = (k + 1) * a + a := by
              push_cast
              rw [Int.add_mul ((k : Int) + 1) 1 a]
              omega
            omega
      · exfalso
        omega
end Oc
set_option Elab.async false
set_option linter.all false
set_option maxRecDepth 100000
set_option maxHeartbeats 4000000
namespace Oc
open PySem PySem.Spec PyProof.Rows L2 Pv
theorem lookF_cons (p : Int × Option (Int × Nat)) (f : Fo) (y : Int) : lookF (p :: f) y = if p.1 = y then some p.2 else lookF f y := by
  unfold lookF
  rw [List.find?_cons]
  by_cases h : p.1 = y
  · simp [h]
  · have h2 : (p.1 == y) = false := beq_eq_false_iff_ne.mpr h
    rw [h2, if_neg h]
theorem em_look {a want : Int} (ha : 1 ≤ a) : ∀ (k q : Nat) (x : Int), k < q → want ≤ x - k * a → lookF (stepsF a want q x) (x - (k + 1) * a) = some (some (x - k * a, 0))
  | 0, q + 1, x, _, h => by
    have h' : want ≤ x := by simpa using h
    rw [stepsF, if_pos h', lookF_cons]
    simp
  | k + 1, q + 1, x, hq, h => by
    have e : ((k + 1 : Nat) : Int) * a = k * a + a := by
      push_cast
      rw [Int.add_mul]
      omega
    have e2 : (((k + 1 : Nat) : Int) + 1) * a = (k + 1) * a + a := by
      push_cast
      rw [Int.add_mul ((k : Int) + 1) 1 a]
      omega
    have e3 : ((k : Int) + 1) * a = k * a + a := by
      rw [Int.add_mul]
      omega
    have hk : 0 ≤ (k : Int) * a := Int.mul_nonneg (by omega) (by omega)
    have h' : want ≤ x := by omega
    rw [stepsF, if_pos h', lookF_cons, if_neg (show ¬ (x - a = x - (((k + 1 : Nat) : Int) + 1) * a) by omega)]
    have := em_look ha k q (x - a) (by omega) (show want ≤ x - a - k * a by omega)
    rw [show x - (((k + 1 : Nat) : Int) + 1) * a = x - a - ((k : Int) + 1) * a by omega, this, show x - a - (k : Int) * a = x - ((k + 1 : Nat) : Int) * a by omega]
theorem em_trace {a want n : Int} (ha : 1 ≤ a) : ∀ (k : Nat), k ≤ 300 → (∀ j : Nat, j < k → want ≤ n - j * a) → traceS ((n, none) :: stepsF a want 300 n) (k + 1) (n - k * a) = some (List.replicate k 0)
  | 0, _, _ => by
    rw [traceS, lookF_cons]
    simp
  | k + 1, hk, h => by
    have e : ((k + 1 : Nat) : Int) * a = k * a + a := by
      push_cast
      rw [Int.add_mul]
      omega
    have e3 : ((k : Int) + 1) * a = k * a + a := by
      rw [Int.add_mul]
      omega
    have h0 : 0 ≤ (k : Int) * a := Int.mul_nonneg (by omega) (by omega)
    have hl : lookF ((n, none) :: stepsF a want 300 n) (n - ((k + 1 : Nat) : Int) * a) = some (some (n - k * a, 0)) := by
      rw [lookF_cons, if_neg (show ¬ (n = n - ((k + 1 : Nat) : Int) * a) by omega), show n - ((k + 1 : Nat) : Int) * a = n - ((k : Int) + 1) * a by omega]
      exact em_look ha k 300 n (by omega) (h k (by omega))
    rw [traceS, hl]
    simp only
    rw [em_trace ha k (by omega) (fun j hj => h j (by omega))]
    rfl
theorem zip_lt : ∀ l : List Int, l.Pairwise (· < ·) → ((l.zip (l.drop 1)).all fun p => decide (p.1 < p.2)) = true
  | [], _ => rfl
  | [a], _ => rfl
  | a :: b :: l, h => by
    have h1 : a < b := (List.pairwise_cons.mp h).1 b List.mem_cons_self
    have h2 := zip_lt (b :: l) (List.pairwise_cons.mp h).2
    show (decide (a < b) && (((b :: l).zip l).all fun p => decide (p.1 < p.2))) = true
    have h3 : (((b :: l).zip ((b :: l).drop 1)).all fun p => decide (p.1 < p.2)) = (((b :: l).zip l).all fun p => decide (p.1 < p.2)) := rfl
    rw [← h3, h2, decide_eq_true h1]
    rfl
theorem srt_lt {l : List Int} (h : l.Nodup) : (srt l).Pairwise (· < ·) := by
  have h1 := srt_pw l
  have h2 : (srt l).Nodup := (srt_perm l).nodup_iff.mpr h
  exact (h1.and h2).imp fun ⟨x, y⟩ => by omega
theorem em_next {k : Nat} {a : Int} : ((k : Int) + 1) * a = k * a + a := by
  rw [Int.add_mul]
  omega
theorem emF {a want n : Int} (ha : 1 ≤ a) (haw : a ≤ want) (hw : want ≤ 9) (hn : 0 ≤ n) (hn2 : n < 200) : EmF a want n := by
  have hw1 : 1 ≤ want := by omega
  have keys : ∀ top, n ≤ top → keysF (ways (risesS (emSt a want)) n top) = emN a want n := fun top h => em_keys ha hw1 hn hn2 h
  have mem : ∀ y, y ∈ emN a want n ↔ y = n ∨ ∃ k : Nat, y = n - (k + 1) * a ∧ want ≤ n - k * a := fun y => by
    rw [emN, List.mem_cons, em_mem ha haw 300 n y (by omega)]
  have rng : ∀ x ∈ emN a want n, 0 ≤ x ∧ x ≤ n := fun x hx => by
    rcases (mem x).mp hx with rfl | ⟨k, h1, h2⟩
    · omega
    · have h0 : 0 ≤ (k : Int) * a := Int.mul_nonneg (by omega) (by omega)
      rw [em_next] at h1
      omega
  have nd : (emN a want n).Nodup := by
    rw [← keys n (Int.le_refl n)]
    exact (ways_good (emRs ha haw)).nd
  have come : ∀ most, comeS (risesS (emSt a want)) n most = (srt (emN a want n)).filter fun x => decide (x ≤ most) := fun most => by
    unfold comeS
    rw [keys _ (by unfold topS; simp only [mx2_max]; omega)]
  have hlen : (emN a want n).length ≤ 301 := by
    have h : ∀ (q : Nat) (x : Int), (numsS a want q x).length ≤ q := fun q => by
      induction q with
      | zero => intro x; exact Nat.le_refl _
      | succ q ih =>
        intro x
        rw [numsS]
        split
        · exact Nat.zero_le _
        · have := ih (x - a)
          rw [List.length_cons]
          omega
    have := h 300 n
    rw [emN, List.length_cons]
    omega
  have ends : risingS (risesS (emSt a want)) n = none := by
    rw [emRs_eq]
    unfold risingS
    rw [List.findSome?_eq_none_iff]
    intro x _
    have : risingAt [(want, -a)] x = [] := by
      unfold risingAt
      have h : (decide (0 < -a)) = false := decide_eq_false (by omega)
      simp [h]
      omega
    rw [this]
    rfl
  have srtN : (srt (emN a want n)).filter (fun x => decide (x ≤ n)) = srt (emN a want n) := List.filter_eq_self.mpr fun x hx => decide_eq_true (rng x (srt_mem.mp hx)).2
  have inIff : ∀ y, inS (srt (emN a want n), 0, 0) y = (emN a want n).contains y := fun y => by
    unfold inS
    simp only
    have h : (srt (emN a want n)).contains y = (emN a want n).contains y := by
      rw [Bool.eq_iff_iff]
      simp only [List.contains_iff_mem]
      exact srt_mem
    rw [h]
    simp
  refine ⟨?_, ?_, ends, fun most _ _ => come most, fun y hy0 hy1 hc => ?_, fun y hy0 hy1 hc => ?_, ?_, ?_, ?_, hlen, rng⟩
  · have h := ShapeIs.flat (rs := risesS (emSt a want)) (n := n) ends
    rw [come n, srtN] at h
    exact h
  · rw [emRs_eq]
    simp [measS]
    omega
  · have hm : y ∈ emN a want n := by simpa using hc
    obtain ⟨k, hk, hyk, hj⟩ : ∃ k : Nat, k ≤ 300 ∧ y = n - k * a ∧ ∀ j : Nat, j < k → want ≤ n - j * a := by
      rcases (mem y).mp hm with rfl | ⟨k, h1, h2⟩
      · exact ⟨0, by omega, by simp, fun j hj => absurd hj (Nat.not_lt_zero _)⟩
      · have hkn : (k : Int) ≤ k * a := by
          have := Int.mul_le_mul_of_nonneg_left ha (show (0 : Int) ≤ k by omega)
          omega
        refine ⟨k + 1, by omega, by push_cast; exact h1, fun j hj => ?_⟩
        have : (j : Int) * a ≤ k * a := Int.mul_le_mul_of_nonneg_right (by omega) (by omega)
        omega
    have hd : (n - y) / a = k := by
      rw [hyk, show n - (n - (k : Int) * a) = k * a by omega]
      exact Int.mul_ediv_cancel _ (by omega)
    rw [hd]
    refine ⟨by omega, by omega, ?_⟩
    have ht := em_trace (want := want) ha k hk hj
    rw [← hyk] at ht
    rw [Int.toNat_natCast, show List.replicate k 0 = (List.replicate k 0).reverse by rw [List.reverse_replicate]]
    refine WordIs.yes (q := k + 1) ?_ (by omega)
    rw [em_ways ha hw1 hn hn2 (by unfold topS; simp only [mx2_max]; omega)]
    exact ht
  · have hh : has (ways (risesS (emSt a want)) n (topS n y)) y = false := by
      cases e : has (ways (risesS (emSt a want)) n (topS n y)) y with
      | false => rfl
      | true =>
        have h1 := has_mem.mp e
        have h2 : y ∈ keysF (ways (risesS (emSt a want)) n (topS n y)) := h1
        rw [keys _ (by unfold topS; simp only [mx2_max]; omega)] at h2
        have : (emN a want n).contains y = true := by simpa using h2
        rw [hc] at this
        cases this
    exact ⟨.no hh, hh, by rw [inIff, hc]⟩
  · unfold isShapeS
    simp only [Bool.and_eq_true]
    refine ⟨⟨⟨⟨decide_eq_true (by rw [srt_len]; omega), ?_⟩, zip_lt _ (srt_lt nd)⟩, ⟨rfl, rfl⟩⟩, ⟨rfl, rfl⟩⟩
    rw [List.all_eq_true]
    intro x hx
    have := rng x (srt_mem.mp hx)
    simp
    omega
  · intro x hx r hr hle
    rw [emRs_eq] at hr
    have er : r = (want, -a) := by simpa using hr
    subst er
    have hxm : x ∈ emN a want n := by
      have hx' : x ∈ srt (emN a want n) := by simpa [someS] using hx
      exact srt_mem.mp hx'
    rw [inIff]
    have hle' : want ≤ x := hle
    have : x + -a ∈ emN a want n := by
      rw [mem]
      rcases (mem x).mp hxm with rfl | ⟨k, h1, h2⟩
      · exact .inr ⟨0, by simp; omega, by simpa using hle'⟩
      · refine .inr ⟨k + 1, ?_, ?_⟩
        · push_cast
          rw [Int.add_mul ((k : Int) + 1) 1 a]
          omega
        · push_cast
          omega
    simpa using this
  · rw [inIff]
    simp [emN]
end Oc
set_option Elab.async false
set_option linter.all false
set_option maxRecDepth 100000
set_option maxHeartbeats 4000000
/-! what the search finds: all that comes, by shortest words -/
namespace Oc
open PySem PySem.Spec PyProof.Rows L2 Pv
/-- words that stay within top -/
inductive Run (rs : List (Int × Int)) (top x : Int) : List Nat → Int → Prop
  | nil : Run rs top x [] x
  | snoc {y : Int} {ks : List Nat} {k : Nat} {r : Int × Int} : Run rs top x ks y → rs[k]? = some r → r.1 ≤ y → y + r.2 ≤ top → Run rs top x (ks ++ [k]) (y + r.2)
/-- traces stay when new numbers come behind -/
theorem lookF_app {f g : Fo} {y : Int} (h : has f y = true) : lookF (f ++ g) y = lookF f y := by
  induction f with
  | nil => cases h
  | cons p f ih =>
    rw [List.cons_append, lookF_cons, lookF_cons]
    by_cases e : p.1 = y
    · rw [if_pos e, if_pos e]
    · rw [if_neg e, if_neg e]
      refine ih ?_
      have h2 : (p.1 == y) = false := beq_eq_false_iff_ne.mpr e
      unfold has at h ⊢
      rw [List.any_cons, h2, Bool.false_or] at h
      exact h
theorem lookF_new {f : Fo} {y : Int} {o : Option (Int × Nat)} (h : has f y = false) : lookF (f ++ [(y, o)]) y = some o := by
  induction f with
  | nil => rw [List.nil_append, lookF_cons, if_pos rfl]
  | cons p f ih =>
    unfold has at h
    rw [List.any_cons, Bool.or_eq_false_iff] at h
    rw [List.cons_append, lookF_cons, if_neg (by simpa using h.1)]
    exact ih h.2
theorem trace_app {f g : Fo} : ∀ {q : Nat} {y : Int} {ks : List Nat}, traceS f q y = some ks → traceS (f ++ g) q y = some ks
  | 0, y, ks, h => by cases h
  | q + 1, y, ks, h => by
    rw [traceS] at h ⊢
    have hh : has f y = true := by
      rw [look_has]
      cases e : lookF f y with
      | none =>
        rw [e] at h
        cases h
      | some _ => rfl
    rw [lookF_app hh]
    cases e : lookF f y with
    | none =>
      rw [e] at h
      cases h
    | some o =>
      rw [e] at h
      cases o with
      | none => exact h
      | some p =>
        obtain ⟨x, k⟩ := p
        simp only at h ⊢
        obtain ⟨ks', h1, h2⟩ := Option.map_eq_some_iff.mp h
        rw [trace_app h1]
        simp [h2]
/-- found with a word of that length -/
def Tr (rs : List (Int × Int)) (n top : Int) (f : Fo) (d : Nat) (y : Int) : Prop := ∃ ks : List Nat, ks.length = d ∧ traceS f (d + 1) y = some ks ∧ Run rs top n ks.reverse y
theorem Tr.app {rs : List (Int × Int)} {n top : Int} {f g : Fo} {d : Nat} {y : Int} (h : Tr rs n top f d y) : Tr rs n top (f ++ g) d y := by
  obtain ⟨ks, h1, h2, h3⟩ := h
  exact ⟨ks, h1, trace_app h2, h3⟩
theorem has_app {f g : Fo} {y : Int} : has (f ++ g) y = (has f y || has g y) := by
  unfold has
  rw [List.any_append]
/-- the state within a level: f0 the numbers ahead of the level -/
structure Lev (rs : List (Int × Int)) (n top : Int) (f0 : Fo) (d : Nat) (s : Fo × List Int) : Prop where
  ext : ∃ g, s.1 = f0 ++ g
  fur : ∀ y, y ∈ s.2 ↔ has s.1 y = true ∧ has f0 y = false
  new : ∀ y ∈ s.2, Tr rs n top s.1 (d + 1) y
theorem Lev.step {rs : List (Int × Int)} {n top x : Int} {f0 : Fo} {d : Nat} {s : Fo × List Int} {rk : (Int × Int) × Nat} (h : Lev rs n top f0 d s) (hx : Tr rs n top f0 d x) (hk : rs[rk.2]? = some rk.1) :
    Lev rs n top f0 d (inner top x s rk) ∧ (rk.1.1 ≤ x → x + rk.1.2 ≤ top → has (inner top x s rk).1 (x + rk.1.2) = true) ∧ ∀ y, has s.1 y = true → has (inner top x s rk).1 y = true := by
  unfold inner
  split
  · rename_i c
    simp only [Bool.and_eq_true, decide_eq_true_eq, Bool.not_eq_true'] at c
    obtain ⟨c1, c2, c3⟩ := c
    obtain ⟨g, hg⟩ := h.ext
    have hs1 : ∀ y, has (s.1 ++ [(x + rk.1.2, some (x, rk.2))]) y = (has s.1 y || decide (x + rk.1.2 = y)) := fun y => by
      rw [has_app]
      congr 1
      unfold has
      simp
      by_cases e : x + rk.1.2 = y <;> simp [e]
    have h0 : has f0 (x + rk.1.2) = false := by
      cases e : has f0 (x + rk.1.2) with
      | false => rfl
      | true =>
        rw [hg, has_app, e] at c3
        cases c3
    refine ⟨⟨⟨g ++ [(x + rk.1.2, some (x, rk.2))], by simp [hg]⟩, fun y => ?_, fun y hy => ?_⟩, fun _ _ => ?_, fun y hy => ?_⟩
    · rw [hs1, List.mem_append, h.fur]
      constructor
      · rintro (⟨a1, a2⟩ | a)
        · exact ⟨by rw [a1]; rfl, a2⟩
        · have : y = x + rk.1.2 := by simpa using a
          subst this
          exact ⟨by simp, h0⟩
      · rintro ⟨a1, a2⟩
        rw [Bool.or_eq_true, decide_eq_true_eq] at a1
        rcases a1 with a | a
        · exact .inl ⟨a, a2⟩
        · exact .inr (by simp [a])
    · rcases List.mem_append.mp hy with hy | hy
      · exact (h.new y hy).app
      · have e : y = x + rk.1.2 := by simpa using hy
        subst e
        obtain ⟨ks, k1, k2, k3⟩ := hx
        refine ⟨rk.2 :: ks, by rw [List.length_cons, k1], ?_, ?_⟩
        · rw [traceS, lookF_new c3]
          simp only
          have : traceS (s.1 ++ [(x + rk.1.2, some (x, rk.2))]) (d + 1) x = some ks := by
            rw [hg, List.append_assoc]
            exact trace_app k2
          rw [this]
          rfl
        · rw [List.reverse_cons]
          exact Run.snoc k3 hk c1 c2
    · rw [hs1]
      simp
    · rw [hs1, hy]
      rfl
  · rename_i c
    refine ⟨h, fun a1 a2 => ?_, fun y hy => hy⟩
    cases e : has s.1 (x + rk.1.2) with
    | true => rfl
    | false =>
      exfalso
      apply c
      simp [a1, a2, e]
end Oc
set_option Elab.async false
set_option linter.all false
set_option maxRecDepth 100000
set_option maxHeartbeats 4000000
namespace Oc
open PySem PySem.Spec PyProof.Rows L2 Pv
section
variable {rs : List (Int × Int)} {n top : Int}
theorem Lev.fold {x : Int} {f0 : Fo} {d : Nat} (hx : Tr rs n top f0 d x) : ∀ (rks : List ((Int × Int) × Nat)) {s : Fo × List Int}, Lev rs n top f0 d s → (∀ p ∈ rks, rs[p.2]? = some p.1) →
    Lev rs n top f0 d (rks.foldl (inner top x) s) ∧ (∀ p ∈ rks, p.1.1 ≤ x → x + p.1.2 ≤ top → has (rks.foldl (inner top x) s).1 (x + p.1.2) = true) ∧ ∀ y, has s.1 y = true → has (rks.foldl (inner top x) s).1 y = true
  | [], s, h, _ => ⟨h, (fun p hp => by cases hp), fun y hy => hy⟩
  | r :: rks, s, h, hk => by
    obtain ⟨h1, h2, h3⟩ := h.step hx (hk r List.mem_cons_self)
    obtain ⟨g1, g2, g3⟩ := Lev.fold hx rks h1 fun p hp => hk p (List.mem_cons_of_mem _ hp)
    refine ⟨g1, fun p hp a1 a2 => ?_, fun y hy => g3 y (h3 y hy)⟩
    rcases List.mem_cons.mp hp with rfl | hp
    · exact g3 _ (h2 a1 a2)
    · exact g2 p hp a1 a2
theorem zipIdx_get {α : Type} {l : List α} {p : α × Nat} (h : p ∈ l.zipIdx) : l[p.2]? = some p.1 := by
  obtain ⟨a, k⟩ := p
  have := List.mem_zipIdx' h
  exact (List.getElem?_eq_some_iff.mpr ⟨this.1, this.2.symm⟩)
theorem Lev.all {f0 : Fo} {d : Nat} : ∀ (here : List Int) {s : Fo × List Int}, Lev rs n top f0 d s → (∀ x ∈ here, Tr rs n top f0 d x) →
    Lev rs n top f0 d (here.foldl (fun s x => rs.zipIdx.foldl (inner top x) s) s) ∧ (∀ x ∈ here, ∀ (k : Nat) (r : Int × Int), rs[k]? = some r → r.1 ≤ x → x + r.2 ≤ top → has (here.foldl (fun s x => rs.zipIdx.foldl (inner top x) s) s).1 (x + r.2) = true) ∧
      ∀ y, has s.1 y = true → has (here.foldl (fun s x => rs.zipIdx.foldl (inner top x) s) s).1 y = true
  | [], s, h, _ => ⟨h, (fun x hx => by cases hx), fun y hy => hy⟩
  | x :: here, s, h, ht => by
    obtain ⟨h1, h2, h3⟩ := Lev.fold (ht x List.mem_cons_self) rs.zipIdx h fun p hp => zipIdx_get hp
    obtain ⟨g1, g2, g3⟩ := Lev.all here h1 fun z hz => ht z (List.mem_cons_of_mem _ hz)
    refine ⟨g1, fun z hz k r hr a1 a2 => ?_, fun y hy => g3 y (h3 y hy)⟩
    rcases List.mem_cons.mp hz with rfl | hz
    · refine g3 _ (h2 (r, k) ?_ a1 a2)
      rw [List.mem_zipIdx_iff_getElem?]
      exact hr
    · exact g2 z hz k r hr a1 a2
/-- the state ahead of a level -/
structure Bst (rs : List (Int × Int)) (n top : Int) (f : Fo) (here : List Int) (d : Nat) : Prop where
  sound : ∀ y, has f y = true → ∃ e, e ≤ d ∧ Tr rs n top f e y ∧ ∀ ks, Run rs top n ks y → e ≤ ks.length
  comp : ∀ y ks, Run rs top n ks y → ks.length ≤ d → has f y = true
  here : ∀ y, y ∈ here ↔ has f y = true ∧ ∀ ks, Run rs top n ks y → d ≤ ks.length
theorem Tr.run {f : Fo} {d : Nat} {y : Int} (h : Tr rs n top f d y) : ∃ ks, Run rs top n ks y ∧ ks.length = d := by
  obtain ⟨ks, h1, _, h3⟩ := h
  exact ⟨ks.reverse, h3, by rw [List.length_reverse, h1]⟩
theorem Bst.tr {f : Fo} {here : List Int} {d : Nat} (b : Bst rs n top f here d) {x : Int} (hx : x ∈ here) : Tr rs n top f d x := by
  obtain ⟨h1, h2⟩ := (b.here x).mp hx
  obtain ⟨e, e1, e2, e3⟩ := b.sound x h1
  obtain ⟨ks, r, hl⟩ := e2.run
  have := h2 ks r
  have : e = d := by omega
  exact this ▸ e2
theorem Bst.step {f : Fo} {here : List Int} {d : Nat} (b : Bst rs n top f here d) : Bst rs n top (level rs top f here).1 (level rs top f here).2 (d + 1) := by
  have h0 : Lev rs n top f d (f, []) := ⟨⟨[], by simp⟩, fun y => by simp, fun y hy => by cases hy⟩
  obtain ⟨h1, h2, h3⟩ := Lev.all here h0 fun x hx => b.tr hx
  obtain ⟨g, hg⟩ := h1.ext
  have hL : level rs top f here = here.foldl (fun s x => rs.zipIdx.foldl (inner top x) s) (f, []) := rfl
  rw [← hL] at h1 h2 h3 hg
  have comp : ∀ y ks, Run rs top n ks y → ks.length ≤ d + 1 → has (level rs top f here).1 y = true := fun y ks hr hl => by
    by_cases hd : ks.length ≤ d
    · exact h3 y (b.comp y ks hr hd)
    · cases hr with
      | nil => exact absurd (Nat.zero_le _) hd
      | @snoc x ks0 k r hr0 hk a1 a2 =>
        rw [List.length_append, List.length_singleton] at hl hd
        have hx : has f x = true := b.comp x ks0 hr0 (by omega)
        by_cases hh : x ∈ here
        · exact h2 x hh k r hk a1 a2
        · obtain ⟨e, e1, e2, e3⟩ := b.sound x hx
          obtain ⟨ks1, r1, l1⟩ := e2.run
          have he : e < d := by
            rcases Nat.lt_or_ge e d with h | h
            · exact h
            · exact absurd ((b.here x).mpr ⟨hx, fun ks hr => Nat.le_trans h (e3 ks hr)⟩) hh
          exact h3 _ (b.comp _ (ks1 ++ [k]) (Run.snoc r1 hk a1 a2) (by rw [List.length_append, List.length_singleton]; omega))
  refine ⟨fun y hy => ?_, comp, fun y => ?_⟩
  · by_cases hf : has f y = true
    · obtain ⟨e, e1, e2, e3⟩ := b.sound y hf
      exact ⟨e, by omega, by rw [hg]; exact e2.app, e3⟩
    · have hy2 : y ∈ (level rs top f here).2 := (h1.fur y).mpr ⟨hy, by simpa using hf⟩
      refine ⟨d + 1, Nat.le_refl _, h1.new y hy2, fun ks hr => ?_⟩
      rcases Nat.lt_or_ge d ks.length with h | h
      · exact h
      · exact absurd (b.comp y ks hr h) hf
  · rw [h1.fur]
    constructor
    · rintro ⟨a1, a2⟩
      refine ⟨a1, fun ks hr => ?_⟩
      rcases Nat.lt_or_ge d ks.length with h | h
      · exact h
      · rw [b.comp y ks hr h] at a2
        cases a2
    · rintro ⟨a1, a2⟩
      refine ⟨a1, ?_⟩
      cases hf : has f y with
      | false => rfl
      | true =>
        obtain ⟨e, e1, e2, e3⟩ := b.sound y hf
        obtain ⟨ks1, r1, l1⟩ := e2.run
        have := a2 ks1 r1
        omega
theorem Bst.start : Bst rs n top [(n, none)] [n] 0 := by
  have hh : ∀ y, has [(n, none)] y = true ↔ y = n := fun y => by
    simp [has]
    exact eq_comm
  refine ⟨fun y hy => ?_, fun y ks hr hl => ?_, fun y => ?_⟩
  · have := (hh y).mp hy
    subst this
    refine ⟨0, Nat.le_refl _, ⟨[], rfl, ?_, Run.nil⟩, fun _ _ => Nat.zero_le _⟩
    rw [traceS, lookF_cons, if_pos rfl]
  · cases hr with
    | nil => exact (hh _).mpr rfl
    | snoc => simp at hl
  · rw [hh]
    simp
/-- nothing is left to go on from: all is found -/
theorem Bst.full {f : Fo} {d : Nat} (b : Bst rs n top f [] d) : ∀ ks y, Run rs top n ks y → has f y = true := fun ks y hr => by
  induction hr with
  | nil => exact b.comp n [] Run.nil (Nat.zero_le _)
  | @snoc x ks0 k r hr0 hk a1 a2 ih =>
    obtain ⟨e, e1, e2, e3⟩ := b.sound x ih
    obtain ⟨ks1, r1, l1⟩ := e2.run
    have he : e < d := by
      rcases Nat.lt_or_ge e d with h | h
      · exact h
      · have := (b.here x).mpr ⟨ih, fun ks hr => Nat.le_trans h (e3 ks hr)⟩
        cases this
    exact b.comp _ (ks1 ++ [k]) (Run.snoc r1 hk a1 a2) (by rw [List.length_append, List.length_singleton]; omega)
theorem bfs_full (hr : Rs rs) : ∀ (q : Nat) (f : Fo) (here : List Int) (d : Nat), Bst rs n top f here d → Good n top f → (here = [] ∨ top.toNat + 2 < f.length + q) → ∃ d', Bst rs n top (bfs rs top q f here) [] d'
  | 0, f, here, d, b, g, h => by
    rcases h with rfl | h
    · exact ⟨d, b⟩
    · have := g.len
      omega
  | q + 1, f, here, d, b, g, h => by
    rw [bfs]
    by_cases hh : here = []
    · rw [if_pos hh]
      subst hh
      exact ⟨d, b⟩
    · rw [if_neg hh]
      have gl := Grow.level hr g here
      refine bfs_full hr q _ _ (d + 1) b.step gl.g ?_
      by_cases hf : (level rs top f here).2 = []
      · exact .inl hf
      · right
        have h1 := gl.len
        have h2 : 0 < (level rs top f here).2.length := List.length_pos_iff.mpr hf
        have h3 := h.resolve_left hh
        omega
/-- ALL THAT COMES IS FOUND, by a shortest word -/
theorem ways_full (hr : Rs rs) : (∀ ks y, Run rs top n ks y → has (ways rs n top) y = true) ∧ ∀ y, has (ways rs n top) y = true → ∃ e, Tr rs n top (ways rs n top) e y ∧ ∀ ks, Run rs top n ks y → e ≤ ks.length := by
  obtain ⟨d, b⟩ := bfs_full (n := n) (top := top) hr (top.toNat + 3) [(n, none)] [n] 0 Bst.start ⟨by simp, fun p hp => .inl (by simp at hp; rw [hp])⟩ (.inr (by simp; omega))
  refine ⟨b.full, fun y hy => ?_⟩
  obtain ⟨e, _, e2, e3⟩ := b.sound y hy
  exact ⟨e, e2, e3⟩
end
end Oc
set_option Elab.async false
set_option linter.all false
set_option maxRecDepth 100000
set_option maxHeartbeats 4000000
namespace Oc
open PySem PySem.Spec PyProof.Rows L2 Pv
section
variable {rs : List (Int × Int)} {n y : Int}
theorem wordOf (hr : Rs rs) {ks : List Nat} (r : Run rs (topS n y) n ks y) (hl : ks.length ≤ 50000) : ∃ ws, WordIs rs n y (some ws) ∧ has (ways rs n (topS n y)) y = true ∧ Run rs (topS n y) n ws y ∧ ∀ ks', Run rs (topS n y) n ks' y → ws.length ≤ ks'.length := by
  obtain ⟨h1, h2⟩ := ways_full (n := n) (top := topS n y) hr
  have hh := h1 ks y r
  obtain ⟨e, ⟨us, u1, u2, u3⟩, e3⟩ := h2 y hh
  have := e3 ks r
  exact ⟨us.reverse, .yes u2 (by omega), hh, u3, fun ks' r' => by rw [List.length_reverse, u1]; exact e3 ks' r'⟩
theorem noWord (hr : Rs rs) (h : ∀ ks, ¬ Run rs (topS n y) n ks y) : has (ways rs n (topS n y)) y = false ∧ WordIs rs n y none := by
  have hh : has (ways rs n (topS n y)) y = false := by
    cases e : has (ways rs n (topS n y)) y with
    | false => rfl
    | true =>
      obtain ⟨d, t, _⟩ := (ways_full (n := n) (top := topS n y) hr).2 y e
      obtain ⟨ks, r, _⟩ := t.run
      exact absurd r (h ks)
  exact ⟨hh, .no hh⟩
theorem Run.cons {top x z : Int} {k : Nat} {r : Int × Int} (hk : rs[k]? = some r) (h1 : r.1 ≤ x) (h2 : x + r.2 ≤ top) {ks : List Nat} (h : Run rs top (x + r.2) ks z) : Run rs top x (k :: ks) z := by
  induction h with
  | nil => exact Run.snoc (ks := []) Run.nil hk h1 h2
  | @snoc y ks k' r' h0 hk' a1 a2 ih => exact Run.snoc (ks := k :: ks) ih hk' a1 a2
end
theorem cnt0 {ks : List Nat} {k : Nat} : (ks ++ [k]).count 0 = ks.count 0 + (if k = 0 then 1 else 0) := by
  rw [List.count_append]
  by_cases h : k = 0 <;> simp [h]
theorem cnt1 {ks : List Nat} {k : Nat} : (ks ++ [k]).count 1 = ks.count 1 + (if k = 1 then 1 else 0) := by
  rw [List.count_append]
  by_cases h : k = 1 <;> simp [h]
/-- a net of two steps: the number told by the counts -/
theorem run_two {r0 r1 : Int × Int} {top x y : Int} {ks : List Nat} (h : Run [r0, r1] top x ks y) : y = x + (ks.count 0 : Int) * r0.2 + (ks.count 1 : Int) * r1.2 ∧ ks.length = ks.count 0 + ks.count 1 ∧ ∀ k ∈ ks, k < 2 := by
  induction h with
  | nil => exact ⟨by simp, rfl, fun k hk => by cases hk⟩
  | @snoc z ks k r h0 hk a1 a2 ih =>
    obtain ⟨i1, i2, i3⟩ := ih
    match k, hk with
    | 0, hk =>
      have : r0 = r := by simpa using hk
      subst this
      refine ⟨?_, ?_, ?_⟩
      · rw [cnt0, cnt1, i1]
        simp only [if_true, show ¬ ((0 : Nat) = 1) by decide, if_false]
        push_cast
        simp only [Int.add_mul, Int.one_mul, Int.zero_mul, Int.add_zero]
        omega
      · rw [cnt0, cnt1, List.length_append, List.length_singleton, i2]
        simp
        omega
      · intro k hk
        rcases List.mem_append.mp hk with h | h
        · exact i3 k h
        · have : k = 0 := by simpa using h
          omega
    | 1, hk =>
      have : r1 = r := by simpa using hk
      subst this
      refine ⟨?_, ?_, ?_⟩
      · rw [cnt0, cnt1, i1]
        simp only [if_true, show ¬ ((1 : Nat) = 0) by decide, if_false]
        push_cast
        simp only [Int.add_mul, Int.one_mul, Int.zero_mul, Int.add_zero]
        omega
      · rw [cnt0, cnt1, List.length_append, List.length_singleton, i2]
        simp
        omega
      · intro k hk
        rcases List.mem_append.mp hk with h | h
        · exact i3 k h
        · have : k = 1 := by simpa using h
          omega
    | k + 2, hk => simp at hk
theorem boRs_eq (a b : Int) : risesS (boSt a b) = [(0, a), (b, -b)] := by
  simp [risesS, boSt]
theorem suRs_eq (a b : Int) : risesS (suSt a b) = [(0, a), (0, b)] := by
  simp [risesS, suSt]
/-- both ways: any counts can be gone in an order that stays low -/
theorem bo_run {a b top y : Int} (ha : 1 ≤ a ∧ a ≤ 9) (hb : 1 ≤ b ∧ b ≤ 9) (ht : 18 ≤ top) (hy : 0 ≤ y) (hyt : y ≤ top) : ∀ (m up down : Nat) (x : Int), up + down = m → 0 ≤ x → x ≤ top → x + up * a - down * b = y → ∃ ks, Run [(0, a), (b, -b)] top x ks y ∧ ks.length = m
  | 0, up, down, x, hm, _, _, he => by
    have h1 : up = 0 := by omega
    have h2 : down = 0 := by omega
    subst h1 h2
    have : x = y := by simpa using he
    subst this
    exact ⟨[], Run.nil, rfl⟩
  | m + 1, up, down, x, hm, hx, hxt, he => by
    by_cases hd : 0 < down ∧ b ≤ x
    · obtain ⟨down, rfl⟩ : ∃ d, down = d + 1 := ⟨down - 1, by omega⟩
      have e : ((down + 1 : Nat) : Int) * b = down * b + b := by
        push_cast
        rw [Int.add_mul]
        omega
      obtain ⟨ks, r, hl⟩ := bo_run ha hb ht hy hyt m up down (x + -b) (by omega) (by omega) (by omega) (by omega)
      exact ⟨1 :: ks, Run.cons (r := (b, -b)) rfl hd.2 (by show x + -b ≤ top; omega) r, by rw [List.length_cons, hl]⟩
    · have hu : 0 < up := by
        rcases Nat.eq_zero_or_pos up with h | h
        · exfalso
          subst h
          have hdp : 0 < down := by omega
          have hxb : ¬ b ≤ x := fun z => hd ⟨hdp, z⟩
          have : b ≤ (down : Int) * b := by
            have := Int.mul_le_mul_of_nonneg_right (show (1 : Int) ≤ down by omega) (show 0 ≤ b by omega)
            omega
          simp at he
          omega
        · exact h
      obtain ⟨up, rfl⟩ : ∃ d, up = d + 1 := ⟨up - 1, by omega⟩
      have e : ((up + 1 : Nat) : Int) * a = up * a + a := by
        push_cast
        rw [Int.add_mul]
        omega
      have hup : 0 ≤ (up : Int) * a := Int.mul_nonneg (by omega) (by omega)
      have hxa : x + a ≤ top := by
        by_cases hdz : down = 0
        · subst hdz
          have h0 : ((0 : Nat) : Int) * b = 0 := by simp
          omega
        · have hxb : ¬ b ≤ x := fun z => hd ⟨by omega, z⟩
          omega
      obtain ⟨ks, r, hl⟩ := bo_run ha hb ht hy hyt m up down (x + a) (by omega) (by omega) hxa (by omega)
      exact ⟨0 :: ks, Run.cons (r := (0, a)) rfl hx hxa r, by rw [List.length_cons, hl]⟩
/-- sums: any counts -/
theorem su_run {a b top : Int} (ha : 1 ≤ a) (hb : 1 ≤ b) : ∀ (m i j : Nat) (x : Int), i + j = m → 0 ≤ x → x + i * a + j * b ≤ top → ∃ ks, Run [(0, a), (0, b)] top x ks (x + i * a + j * b) ∧ ks.length = m
  | 0, i, j, x, hm, _, _ => by
    have h1 : i = 0 := by omega
    have h2 : j = 0 := by omega
    subst h1 h2
    exact ⟨[], by simpa using Run.nil, rfl⟩
  | m + 1, i, j, x, hm, hx, ht => by
    cases i with
    | succ i =>
      have e : ((i + 1 : Nat) : Int) * a = i * a + a := by
        push_cast
        rw [Int.add_mul]
        omega
      have h0 : 0 ≤ (i : Int) * a := Int.mul_nonneg (by omega) (by omega)
      have h1 : 0 ≤ (j : Int) * b := Int.mul_nonneg (by omega) (by omega)
      obtain ⟨ks, r, hl⟩ := su_run (top := top) ha hb m i j (x + a) (by omega) (by omega) (by omega)
      refine ⟨0 :: ks, Run.cons (r := (0, a)) rfl hx (by show x + a ≤ top; omega) ?_, by rw [List.length_cons, hl]⟩
      have : x + ((i + 1 : Nat) : Int) * a + j * b = x + a + i * a + j * b := by omega
      rw [this]
      exact r
    | zero =>
      obtain ⟨j, rfl⟩ : ∃ d, j = d + 1 := ⟨j - 1, by omega⟩
      have e : ((j + 1 : Nat) : Int) * b = j * b + b := by
        push_cast
        rw [Int.add_mul]
        omega
      have h1 : 0 ≤ (j : Int) * b := Int.mul_nonneg (by omega) (by omega)
      simp only [Int.natCast_zero, Int.zero_mul, Int.add_zero] at ht ⊢
      obtain ⟨ks, r, hl⟩ := su_run (top := top) ha hb m 0 j (x + b) (by omega) (by omega) (by simp; omega)
      refine ⟨1 :: ks, Run.cons (r := (0, b)) rfl hx (by show x + b ≤ top; omega) ?_, by rw [List.length_cons, hl]⟩
      have : x + ((j + 1 : Nat) : Int) * b = x + b + ((0 : Nat) : Int) * a + j * b := by
        have h0 : ((0 : Nat) : Int) * a = 0 := by simp
        omega
      rw [this]
      exact r
end Oc
set_option Elab.async false
set_option linter.all false
set_option maxRecDepth 100000
set_option maxHeartbeats 4000000
namespace Oc
open PySem PySem.Spec PyProof.Rows L2 Pv
theorem ex9b : ((List.range 10).all fun a => (List.range 10).all fun b => (List.range 10).all fun r => (a == 0) || (b == 0) || (r % Nat.gcd a b != 0) || (List.range 10).any fun u => (u * a + b * 10 - r) % b == 0) = true := by decide +kernel
theorem ex9 (a : Nat) (h1 : a < 10) (b : Nat) (h2 : b < 10) (r : Nat) (h3 : r < 10) (ha : 1 ≤ a) (hb : 1 ≤ b) (hg : r % Nat.gcd a b = 0) : ∃ u, u < 10 ∧ (u * a + b * 10 - r) % b = 0 := by
  have h := ex9b
  rw [List.all_eq_true] at h
  have h := h a (List.mem_range.mpr h1)
  rw [List.all_eq_true] at h
  have h := h b (List.mem_range.mpr h2)
  rw [List.all_eq_true] at h
  have h := h r (List.mem_range.mpr h3)
  simp only [Bool.or_eq_true, beq_iff_eq, bne_iff_ne, List.any_eq_true, List.mem_range] at h
  rcases h with ((h | h) | h) | h
  · omega
  · omega
  · exact absurd hg h
  · exact h
theorem boG_nat (a b : Nat) : boG (a : Int) (b : Int) = ((Nat.gcd a b : Nat) : Int) := rfl
theorem boG_dvd (a b : Int) : boG a b ∣ a ∧ boG a b ∣ b := ⟨Int.gcd_dvd_left .., Int.gcd_dvd_right ..⟩
theorem boG_pos {a b : Int} (ha : 1 ≤ a) : 0 < boG a b := by
  have h : boG a b ∣ a := (boG_dvd a b).1
  have h0 : 0 ≤ boG a b := Int.natCast_nonneg _
  rcases Int.lt_or_eq_of_le h0 with h1 | h1
  · exact h1
  · rw [← h1] at h
    have := Int.zero_dvd.mp h
    omega
theorem boG_le {a b : Int} (ha : 1 ≤ a) : boG a b ≤ a := Int.le_of_dvd (by omega) (boG_dvd a b).1
/-- counts up that fit, not far above lo -/
theorem ex_up {a b n y : Int} (ha : 1 ≤ a ∧ a ≤ 9) (hb : 1 ≤ b ∧ b ≤ 9) (hg : boG a b ∣ y - n) (lo : Nat) : ∃ up : Nat, lo ≤ up ∧ up ≤ lo + 20 ∧ b ∣ n + up * a - y := by
  obtain ⟨a', rfl⟩ : ∃ k : Nat, a = (k : Int) := ⟨a.toNat, by omega⟩
  obtain ⟨b', rfl⟩ : ∃ k : Nat, b = (k : Int) := ⟨b.toNat, by omega⟩
  have hr0 := Int.emod_nonneg (y - n) (show (b' : Int) ≠ 0 by omega)
  have hr1 := Int.emod_lt_of_pos (y - n) (show (0 : Int) < b' by omega)
  obtain ⟨r, hr⟩ : ∃ r : Nat, (y - n) % (b' : Int) = (r : Int) := ⟨((y - n) % (b' : Int)).toNat, by omega⟩
  have hgr : r % Nat.gcd a' b' = 0 := by
    have h1 : boG (a' : Int) (b' : Int) ∣ (y - n) % (b' : Int) := by
      rw [Int.emod_def]
      exact Int.dvd_sub hg (Int.dvd_trans (boG_dvd _ _).2 (Int.dvd_mul_right _ _))
    rw [hr, boG_nat] at h1
    exact Nat.mod_eq_zero_of_dvd (Int.natCast_dvd_natCast.mp h1)
  obtain ⟨u, hu, hm⟩ := ex9 a' (by omega) b' (by omega) r (by omega) (by omega) (by omega) hgr
  refine ⟨u + b' * (lo / b' + 1), ?_, ?_, ?_⟩
  · have := Nat.div_add_mod lo b'
    have h2 := Nat.mod_lt lo (show 0 < b' by omega)
    rw [Nat.mul_add]
    omega
  · have := Nat.div_add_mod lo b'
    rw [Nat.mul_add]
    omega
  · have h1 : (b' : Int) ∣ (u : Int) * a' - r := by
      have h2 : b' ∣ u * a' + b' * 10 - r := Nat.dvd_of_mod_eq_zero hm
      have h3 : r ≤ u * a' + b' * 10 := by omega
      have h4 : ((b' : Nat) : Int) ∣ ((u * a' + b' * 10 - r : Nat) : Int) := Int.natCast_dvd_natCast.mpr h2
      rw [Int.ofNat_sub h3] at h4
      push_cast at h4
      have h5 : (u : Int) * a' - r = ((u : Int) * a' + b' * 10 - r) - b' * 10 := by omega
      rw [h5]
      exact Int.dvd_sub h4 (Int.dvd_mul_right _ _)
    have h6 : (b' : Int) ∣ (y - n) - r := by
      rw [← hr, Int.emod_def]
      have : y - n - (y - n - (b' : Int) * ((y - n) / b')) = b' * ((y - n) / b') := by omega
      rw [this]
      exact Int.dvd_mul_right _ _
    have h7 : n + ((u + b' * (lo / b' + 1) : Nat) : Int) * a' - y = ((u : Int) * a' - r) - ((y - n) - r) + b' * (((lo / b' + 1 : Nat) : Int) * a') := by
      push_cast
      rw [Int.add_mul (u : Int), Int.mul_assoc (b' : Int)]
      omega
    rw [h7]
    exact Int.dvd_add (Int.dvd_sub h1 h6) (Int.dvd_mul_right _ _)
theorem topS_big (n y : Int) : n ≤ topS n y ∧ y ≤ topS n y ∧ 18 ≤ topS n y := by
  unfold topS
  simp only [mx2_max]
  omega
/-- both ways: what comes, within any top that is no less than 18 -/
theorem bo_reach {a b n y top : Int} (ha : 1 ≤ a ∧ a ≤ 9) (hb : 1 ≤ b ∧ b ≤ 9) (hn : 0 ≤ n) (hy : 0 ≤ y) (hy2 : y < 30000) (ht : 18 ≤ top) (hnt : n ≤ top) (hyt : y ≤ top) (hg : boG a b ∣ y - n) : ∃ ks, Run [(0, a), (b, -b)] top n ks y := by
  obtain ⟨up, h1, h2, d, hd⟩ := ex_up (n := n) (y := y) ha hb hg 30000
  have hup : (30000 : Int) ≤ up * a := by
    have := Int.mul_le_mul (show (30000 : Int) ≤ up by omega) ha.1 (by omega) (by omega)
    omega
  have hd0 : 0 ≤ d := by
    rcases Int.lt_or_le d 0 with h | h
    · have : b * d < 0 := Int.mul_neg_of_pos_of_neg (by omega) h
      omega
    · exact h
  obtain ⟨d', rfl⟩ : ∃ k : Nat, d = (k : Int) := ⟨d.toNat, by omega⟩
  obtain ⟨ks, r, _⟩ := bo_run ha hb ht hy hyt _ up d' n rfl hn hnt (by rw [Int.mul_comm (d' : Int) b]; omega)
  exact ⟨ks, r⟩
theorem bo_dvd {a b n y top : Int} {ks : List Nat} (r : Run [(0, a), (b, -b)] top n ks y) : boG a b ∣ y - n := by
  obtain ⟨h, _, _⟩ := run_two r
  rw [h]
  have e : n + (ks.count 0 : Int) * ((0, a) : Int × Int).2 + (ks.count 1 : Int) * ((b, -b) : Int × Int).2 - n = (ks.count 0 : Int) * a - (ks.count 1 : Int) * b := by
    simp only [Int.mul_neg]
    omega
  rw [e]
  exact Int.dvd_sub (Int.dvd_trans (boG_dvd a b).1 (Int.dvd_mul_left _ _)) (Int.dvd_trans (boG_dvd a b).2 (Int.dvd_mul_left _ _))
theorem bo_has {a b n y top : Int} (ha : 1 ≤ a ∧ a ≤ 9) (hb : 1 ≤ b ∧ b ≤ 9) (hn : 0 ≤ n) (hy : 0 ≤ y) (hy2 : y < 30000) (ht : 18 ≤ top) (hnt : n ≤ top) (hyt : y ≤ top) : has (ways (risesS (boSt a b)) n top) y = decide ((y - n) % boG a b = 0) := by
  obtain ⟨h1, h2⟩ := ways_full (n := n) (top := top) (boRs ha.1 hb.1)
  rw [boRs_eq] at h1 h2 ⊢
  by_cases hg : boG a b ∣ y - n
  · rw [decide_eq_true (Int.emod_eq_zero_of_dvd hg)]
    obtain ⟨ks, r⟩ := bo_reach ha hb hn hy hy2 ht hnt hyt hg
    exact h1 ks y r
  · rw [decide_eq_false fun h => hg (Int.dvd_of_emod_eq_zero h)]
    cases e : has (ways [(0, a), (b, -b)] n top) y with
    | false => rfl
    | true =>
      obtain ⟨d, t, _⟩ := h2 y e
      obtain ⟨ks, r, _⟩ := t.run
      exact absurd (bo_dvd r) hg
end Oc
set_option Elab.async false
set_option linter.all false
set_option maxRecDepth 100000
set_option maxHeartbeats 4000000
namespace Oc
open PySem PySem.Spec PyProof.Rows L2 Pv
theorem rgI_mem {lo : Int} {n : Nat} {x : Int} : x ∈ rgI lo n ↔ ∃ k : Nat, k < n ∧ x = lo + k := by
  unfold rgI
  rw [List.mem_map]
  constructor
  · rintro ⟨k, hk, rfl⟩
    exact ⟨k, List.mem_range.mp hk, rfl⟩
  · rintro ⟨k, hk, rfl⟩
    exact ⟨k, List.mem_range.mpr hk, rfl⟩
theorem rgI_lt {lo : Int} {n : Nat} : (rgI lo n).Pairwise (· < ·) := by
  unfold rgI
  rw [List.pairwise_map]
  exact List.pairwise_lt_range.imp fun h => by omega
theorem fault0 {a b y : Int} {ks : List Nat} : ∀ (k p : Nat) (x : Int), 0 ≤ x → 0 ≤ a → faultS [(0, a), (b, -b)] y (List.replicate k 0 ++ ks) p x = faultS [(0, a), (b, -b)] y ks (p + k) (x + k * a)
  | 0, p, x, _, _ => by simp
  | k + 1, p, x, hx, ha => by
    rw [List.replicate_succ, List.cons_append, faultS]
    simp only [List.getElem?_cons_zero]
    rw [if_neg (by omega), fault0 k (p + 1) (x + a) (by omega) ha]
    have e : ((k + 1 : Nat) : Int) * a = k * a + a := by
      push_cast
      rw [Int.add_mul]
      omega
    rw [show p + 1 + k = p + (k + 1) by omega, show x + a + (k : Int) * a = x + ((k + 1 : Nat) : Int) * a by omega]
theorem fault1 {a b y : Int} (hb : 0 ≤ b) (hy : 0 ≤ y) : ∀ (k p : Nat) (x : Int), x - k * b = y → faultS [(0, a), (b, -b)] y (List.replicate k 1) p x = .none
  | 0, p, x, h => by
    have : x = y := by simpa using h
    rw [List.replicate_zero, faultS, if_neg (fun z => z this)]
  | k + 1, p, x, h => by
    have e : ((k + 1 : Nat) : Int) * b = k * b + b := by
      push_cast
      rw [Int.add_mul]
      omega
    have h0 : 0 ≤ (k : Int) * b := Int.mul_nonneg (by omega) hb
    rw [List.replicate_succ, faultS]
    simp only [List.getElem?_cons_succ, List.getElem?_cons_zero]
    rw [if_neg (by omega)]
    exact fault1 hb hy k (p + 1) (x + -b) (by omega)
theorem bo_way {a b n y : Int} (ha : 1 ≤ a ∧ a ≤ 9) (hb : 1 ≤ b ∧ b ≤ 9) (hn : 0 ≤ n ∧ n < 200) (hy : 0 ≤ y) (hy2 : y ≤ 300) (hg : (y - n) % boG a b = 0) :
    ∃ (up down : Nat) (ws : List Nat), (boCounts a b n y).head? = some ((up : Int), (down : Int)) ∧ up ≤ 1000 ∧ down ≤ 1000 ∧ WordIs (risesS (boSt a b)) n y (some ws) ∧ ws.length = up + down ∧ ws.length ≤ 100000 ∧ faultS (risesS (boSt a b)) y (List.replicate up 0 ++ List.replicate down 1) 0 n = .none := by
  have hb0 : b ≠ 0 := by omega
  obtain ⟨u, u1, u2, u3⟩ := ex_up (n := n) (y := y) ha hb (Int.dvd_of_emod_eq_zero hg) 300
  have hua : (300 : Int) ≤ u * a := by
    have := Int.mul_le_mul (show (300 : Int) ≤ u by omega) ha.1 (by omega) (by omega)
    omega
  have pr : ∀ v : Int, v ∈ (rgI 0 400).filter (fun up => decide (y ≤ n + up * a) && decide ((n + up * a - y) % b = 0)) ↔ (∃ k : Nat, k < 400 ∧ v = k) ∧ y ≤ n + v * a ∧ (n + v * a - y) % b = 0 := fun v => by
    rw [List.mem_filter, rgI_mem, Bool.and_eq_true, decide_eq_true_eq, decide_eq_true_eq]
    simp only [Int.zero_add]
  have hul := (pr u).mpr ⟨⟨u, by omega, rfl⟩, by omega, Int.emod_eq_zero_of_dvd u3⟩
  have hpw : ((rgI 0 400).filter (fun up => decide (y ≤ n + up * a) && decide ((n + up * a - y) % b = 0))).Pairwise (· < ·) := rgI_lt.filter _
  cases hL : (rgI 0 400).filter (fun up => decide (y ≤ n + up * a) && decide ((n + up * a - y) % b = 0)) with
  | nil =>
    rw [hL] at hul
    cases hul
  | cons u0 rest =>
    have h0 : u0 ∈ (rgI 0 400).filter (fun up => decide (y ≤ n + up * a) && decide ((n + up * a - y) % b = 0)) := by
      rw [hL]
      exact List.mem_cons_self
    obtain ⟨⟨up, hup, rfl⟩, hge, hdv⟩ := (pr u0).mp h0
    have hmin : ∀ v : Nat, v < 400 → y ≤ n + v * a → (n + v * a - y) % b = 0 → up ≤ v := fun v a1 a2 a3 => by
      have hv := (pr v).mpr ⟨⟨v, a1, rfl⟩, a2, a3⟩
      rw [hL] at hv hpw
      rcases List.mem_cons.mp hv with e | e
      · omega
      · have := (List.pairwise_cons.mp hpw).1 _ e
        omega
    have hbound : n + up * a - y ≤ 271 := by
      by_cases hub : b ≤ up
      · have hlt : ¬ y ≤ n + ((up - b.toNat : Nat) : Int) * a := fun z => by
          have e : ((up - b.toNat : Nat) : Int) = (up : Int) - b := by omega
          have := hmin (up - b.toNat) (by omega) z (by
            rw [e, Int.sub_mul, show n + ((up : Int) * a - b * a) - y = (n + up * a - y) - b * a by omega]
            exact Int.emod_eq_zero_of_dvd (Int.dvd_sub (Int.dvd_of_emod_eq_zero hdv) (Int.dvd_mul_right _ _)))
          omega
        have e : ((up - b.toNat : Nat) : Int) = (up : Int) - b := by omega
        rw [e, Int.sub_mul] at hlt
        have : b * a ≤ 9 * 9 := Int.mul_le_mul hb.2 ha.2 (by omega) (by omega)
        omega
      · have : (up : Int) * a ≤ 8 * 9 := Int.mul_le_mul (by omega) ha.2 (by omega) (by omega)
        omega
    have hd0 : 0 ≤ (n + up * a - y) / b := Int.ediv_nonneg (by omega) (by omega)
    obtain ⟨down, hdn⟩ : ∃ k : Nat, (n + up * a - y) / b = (k : Int) := ⟨((n + up * a - y) / b).toNat, by omega⟩
    have hdb : (down : Int) * b = n + up * a - y := by
      rw [← hdn, Int.ediv_mul_cancel (Int.dvd_of_emod_eq_zero hdv)]
    have hdle : (down : Int) ≤ 271 := by
      rw [← hdn]
      exact Int.le_trans (Int.ediv_le_self _ (by omega)) hbound
    obtain ⟨t1, t2, t3⟩ := topS_big n y
    obtain ⟨ks, r, hkl⟩ := bo_run (top := topS n y) ha hb t3 hy t2 (up + down) up down n rfl hn.1 t1 (by omega)
    rw [← boRs_eq] at r
    obtain ⟨ws, w1, w2, w3, w4⟩ := wordOf (boRs ha.1 hb.1) r (by omega)
    have hle := w4 ks r
    rw [boRs_eq] at w3
    obtain ⟨c1, c2, c3⟩ := run_two w3
    simp only at c1
    have hc : y = n + (ws.count 0 : Int) * a - (ws.count 1 : Int) * b := by
      rw [c1, Int.mul_neg]
      omega
    have hcb : 0 ≤ (ws.count 1 : Int) * b := Int.mul_nonneg (by omega) (by omega)
    have hcu : up ≤ ws.count 0 := by
      by_cases h4 : ws.count 0 < 400
      · refine hmin _ h4 (by omega) ?_
        rw [show n + (ws.count 0 : Int) * a - y = (ws.count 1 : Int) * b by omega]
        exact Int.mul_emod_left _ _
      · omega
    have hcd : down ≤ ws.count 1 := by
      have h1 : (up : Int) * a ≤ (ws.count 0 : Int) * a := Int.mul_le_mul_of_nonneg_right (by omega) (by omega)
      have h2 : (down : Int) * b ≤ (ws.count 1 : Int) * b := by omega
      have := Int.le_of_mul_le_mul_right h2 (by omega)
      omega
    refine ⟨up, down, ws, ?_, by omega, by omega, w1, by omega, by omega, ?_⟩
    · unfold boCounts
      rw [hL, List.map_cons, List.head?_cons, hdn]
    · rw [boRs_eq, fault0 up 0 n hn.1 (by omega)]
      exact fault1 (by omega) hy down _ _ (by omega)
end Oc
set_option Elab.async false
set_option linter.all false
set_option maxRecDepth 100000
set_option maxHeartbeats 4000000
namespace Oc
open PySem PySem.Spec PyProof.Rows L2 Pv
theorem emod_sub_zero {x n g : Int} : (x - n) % g = 0 ↔ x % g = n % g := Int.emod_eq_emod_iff_emod_sub_eq_zero.symm
theorem least_rest {x n g : Int} (h0 : 0 ≤ x) (h1 : x < g) (h : (x - n) % g = 0) : x = n % g := by
  rw [emod_sub_zero, Int.emod_eq_of_lt h0 h1] at h
  exact h
theorem rest_le {x n g : Int} (hg : 0 < g) (h0 : 0 ≤ x) (h : (x - n) % g = 0) : n % g ≤ x := by
  rw [emod_sub_zero] at h
  rw [← h]
  have := Int.mul_ediv_add_emod x g
  have h2 := Int.ediv_nonneg h0 (by omega : 0 ≤ g)
  have := Int.mul_nonneg (by omega : 0 ≤ g) h2
  omega
theorem rest_self (n g : Int) : (n % g - n) % g = 0 := by
  rw [emod_sub_zero, Int.emod_emod]
theorem sub_g {x n g : Int} (h : (x - n) % g = 0) : (x - g - n) % g = 0 := by
  rw [show x - g - n = (x - n) - g by omega]
  exact Int.emod_eq_zero_of_dvd (Int.dvd_sub (Int.dvd_of_emod_eq_zero h) (Int.dvd_refl g))
theorem fullGo_all {kn : List Int} {n g most : Int} (hg : 0 < g) (hk : ∀ x, kn.contains x = true ↔ (0 ≤ x ∧ x ≤ most) ∧ (x - n) % g = 0) : ∀ (q : Nat) (low : Int), low.toNat < q → 0 ≤ low → low ≤ most → (low - n) % g = 0 → fullGo kn g q low = n % g
  | 0, low, h, _, _, _ => absurd h (Nat.not_lt_zero _)
  | q + 1, low, h, h0, h1, h2 => by
    rw [fullGo]
    by_cases hl : 0 ≤ low - g
    · have hc : kn.contains (low - g) = true := (hk _).mpr ⟨⟨hl, by omega⟩, sub_g h2⟩
      rw [if_pos (by rw [decide_eq_true hl, hc]; rfl)]
      exact fullGo_all hg hk q (low - g) (by omega) hl (by omega) (sub_g h2)
    · rw [if_neg (by rw [decide_eq_false hl]; exact Bool.false_ne_true)]
      exact least_rest h0 (by omega) h2
theorem fullS_all {kn : List Int} {n g most : Int} (hg : 0 < g) (hn : 0 ≤ n) (hm : n ≤ most) (hk : ∀ x, kn.contains x = true ↔ (0 ≤ x ∧ x ≤ most) ∧ (x - n) % g = 0) : fullS kn n g most = n % g := by
  have h1 := Int.emod_nonneg (most - n) (show g ≠ 0 by omega)
  have h2 : (most - n) % g ≤ most - n := by
    have := Int.mul_ediv_add_emod (most - n) g
    have h2 := Int.ediv_nonneg (show 0 ≤ most - n by omega) (by omega : 0 ≤ g)
    have := Int.mul_nonneg (by omega : 0 ≤ g) h2
    omega
  unfold fullS
  refine fullGo_all hg hk _ _ (Nat.lt_succ_self _) (by omega) (by omega) ?_
  have := Int.mul_ediv_add_emod (most - n) g
  rw [show most - (most - n) % g - n = g * ((most - n) / g) by omega]
  exact Int.mul_emod_right _ _
section
variable {a b n : Int}
theorem bo_come (ha : 1 ≤ a ∧ a ≤ 9) (hb : 1 ≤ b ∧ b ≤ 9) (hn : 0 ≤ n) {most : Int} (hm : most < 20000) (x : Int) : (comeS (risesS (boSt a b)) n most).contains x = true ↔ (0 ≤ x ∧ x ≤ most) ∧ (x - n) % boG a b = 0 := by
  obtain ⟨t1, t2, t3⟩ := topS_big n most
  rw [List.contains_iff_mem, comeS, List.mem_filter, srt_mem, decide_eq_true_eq]
  have hk : x ∈ keysF (ways (risesS (boSt a b)) n (topS n most)) ↔ has (ways (risesS (boSt a b)) n (topS n most)) x = true := has_mem.symm
  rw [hk]
  constructor
  · rintro ⟨h1, h2⟩
    have h0 : 0 ≤ x := by
      obtain ⟨p, hp, e⟩ := List.mem_map.mp (has_mem.mp h1)
      have := (ways_good (n := n) (top := topS n most) (boRs ha.1 hb.1)).rg p hp
      rw [e] at this
      omega
    rw [bo_has ha hb hn h0 (by omega) t3 t1 (by omega), decide_eq_true_eq] at h1
    exact ⟨⟨h0, h2⟩, h1⟩
  · rintro ⟨⟨h0, h2⟩, h1⟩
    rw [bo_has ha hb hn h0 (by omega) t3 t1 (by omega), decide_eq_true_eq]
    exact ⟨h1, h2⟩
theorem bo_meas : measS (risesS (boSt a b)) = boG a b := by
  rw [boRs_eq]
  simp [measS, boG, Int.gcd]
theorem bo_rising (ha : 1 ≤ a ∧ a ≤ 9) (hb : 1 ≤ b ∧ b ≤ 9) (hn : 0 ≤ n) : ∃ x0, 0 ≤ x0 ∧ x0 ≤ n ∧ risingS (risesS (boSt a b)) n = some (x0, a) := by
  have gd := ways_good (n := n) (top := n) (boRs ha.1 hb.1)
  have hmem : ∀ x ∈ srt (keysF (ways (risesS (boSt a b)) n n)), 0 ≤ x ∧ x ≤ n := fun x hx => by
    obtain ⟨p, hp, e⟩ := List.mem_map.mp (srt_mem.mp hx)
    have := gd.rg p hp
    rw [e] at this
    omega
  have hn' : n ∈ srt (keysF (ways (risesS (boSt a b)) n n)) := srt_mem.mpr (has_mem.mp ((ways_full (n := n) (top := n) (boRs ha.1 hb.1)).1 [] n Run.nil))
  have hra : ∀ x, 0 ≤ x → risingAt (risesS (boSt a b)) x = [a] := fun x hx => by
    rw [boRs_eq]
    have h1 : decide ((0 : Int) ≤ x) = true := decide_eq_true hx
    have h2 : decide ((0 : Int) < a) = true := decide_eq_true (by omega)
    have h3 : decide ((0 : Int) < -b) = false := decide_eq_false (by omega)
    unfold risingAt
    rw [List.filter_cons, List.filter_cons, List.filter_nil]
    simp only [h1, h2, h3, Bool.and_false, Bool.and_self, if_true, Bool.false_eq_true, if_false]
    rfl
  unfold risingS
  cases hl : srt (keysF (ways (risesS (boSt a b)) n n)) with
  | nil =>
    rw [hl] at hn'
    cases hn'
  | cons x0 rest =>
    have h0 := hmem x0 (by rw [hl]; exact List.mem_cons_self)
    refine ⟨x0, h0.1, h0.2, ?_⟩
    rw [List.findSome?_cons, hra x0 h0.1]
    rfl
theorem boF (ha : 1 ≤ a ∧ a ≤ 9) (hb : 1 ≤ b ∧ b ≤ 9) (hn : 0 ≤ n ∧ n < 200) : BoF a b n := by
  have g0 : 0 < boG a b := boG_pos ha.1
  have g9 : boG a b ≤ 9 := Int.le_trans (boG_le ha.1) ha.2
  have m0 := Int.emod_nonneg n (show boG a b ≠ 0 by omega)
  have m1 := Int.emod_lt_of_pos n g0
  have hself := rest_self n (boG a b)
  have mod_le : n % boG a b ≤ n := rest_le g0 hn.1 (by simp)
  have inIff : ∀ x, 0 ≤ x → inS (boShape a b n) x = decide ((x - n) % boG a b = 0) := fun x hx => by
    unfold inS boShape
    simp only [List.contains_nil, Bool.false_or]
    rw [decide_eq_true g0, Bool.true_and]
    have e : (x - n % boG a b) % boG a b = 0 ↔ (x - n) % boG a b = 0 := by
      rw [emod_sub_zero, emod_sub_zero, Int.emod_emod]
    by_cases h : (x - n) % boG a b = 0
    · rw [decide_eq_true (rest_le g0 hx h), decide_eq_true (e.mpr h), decide_eq_true h]
      rfl
    · rw [decide_eq_false (fun z => h (e.mp z)), decide_eq_false h, Bool.and_false]
  refine ⟨g0, g9, ?_, ?_, fun y h1 h2 => ?_, ?_, ?_, ?_, fun y h1 h2 h3 => ?_, fun y h1 h2 h3 => bo_way ha hb hn h1 h2 h3⟩
  · obtain ⟨x0, p0, p1, hr⟩ := bo_rising ha hb hn.1
    refine ShapeIs.rise (q := 0) hr (show 0 < a by omega) hn.1 (by rw [bo_meas]; exact g0) ?_ (by show 2 ^ 0 * (2 * (n + a)) < 40000; omega)
    show shapeGo (risesS (boSt a b)) n (x0, a) 1 (2 * (n + a)) = some (boShape a b n)
    have hk := bo_come ha hb hn.1 (most := 2 * (n + a)) (by omega)
    have hfull : fullS (comeS (risesS (boSt a b)) n (2 * (n + a))) n (measS (risesS (boSt a b))) (2 * (n + a)) = n % boG a b := by
      rw [bo_meas]
      exact fullS_all g0 hn.1 (by omega) hk
    have hin : (comeS (risesS (boSt a b)) n (2 * (n + a))).contains (n % boG a b) = true := (hk _).mpr ⟨⟨m0, by omega⟩, hself⟩
    have hsu : shapeUp (risesS (boSt a b)) n (x0, a) (2 * (n + a)) = some (boShape a b n) := by
      unfold shapeUp
      simp only
      rw [hfull, hin, if_neg ?_]
      · unfold boShape
        rw [bo_meas]
        congr 2
        rw [List.filter_eq_nil_iff]
        intro x hx hlt
        have hx2 := (hk x).mp (by simpa using hx)
        have := rest_le g0 hx2.1.1 hx2.2
        have := of_decide_eq_true hlt
        omega
      · simp only [mx2_max, Bool.not_true, Bool.false_or, decide_eq_true_eq]
        omega
    rw [shapeGo, hsu]
  · unfold gapsS boShape
    simp only
    rw [if_neg (by omega)]
    congr 1
    rw [List.filter_eq_nil_iff]
    intro x hx hc
    obtain ⟨k, hk, rfl⟩ := rgI_mem.mp hx
    rw [Bool.and_eq_true] at hc
    have := least_rest (x := 0 + (k : Int)) (by omega) (by omega) (of_decide_eq_true hc.1)
    omega
  · obtain ⟨t1, t2, t3⟩ := topS_big n y
    exact bo_has ha hb hn.1 h1 (by omega) t3 t1 t2
  · unfold isShapeS boShape
    simp only [Bool.and_eq_true]
    exact ⟨⟨⟨⟨rfl, rfl⟩, rfl⟩, ⟨decide_eq_true m0, decide_eq_true (by omega)⟩⟩, ⟨decide_eq_true (by omega), decide_eq_true (by omega)⟩⟩
  · intro x hx r hr hle
    have hx' : ∃ t : Nat, t < 530 ∧ x = n % boG a b + (0 + (t : Int)) * boG a b := by
      unfold someS boShape at hx
      simp only [List.nil_append] at hx
      rw [if_pos g0] at hx
      obtain ⟨t, ht, rfl⟩ := List.mem_map.mp hx
      obtain ⟨k, hk, rfl⟩ := rgI_mem.mp ht
      exact ⟨k, hk, rfl⟩
    obtain ⟨t, _, rfl⟩ := hx'
    have hxm : (n % boG a b + (0 + (t : Int)) * boG a b - n) % boG a b = 0 := by
      rw [emod_sub_zero, Int.add_mul_emod_self_right, Int.emod_emod]
    have h0 : 0 ≤ n % boG a b + (0 + (t : Int)) * boG a b := Int.add_nonneg m0 (Int.mul_nonneg (by omega) (by omega))
    rw [boRs_eq] at hr
    have hr' : r = (0, a) ∨ r = (b, -b) := by simpa using hr
    have hdv := boG_dvd a b
    rcases hr' with rfl | rfl
    · rw [inIff _ (show 0 ≤ _ + a by omega)]
      refine decide_eq_true ?_
      rw [show n % boG a b + (0 + (t : Int)) * boG a b + ((0, a) : Int × Int).2 - n = (n % boG a b + (0 + (t : Int)) * boG a b - n) + a by simp only; omega]
      exact Int.emod_eq_zero_of_dvd (Int.dvd_add (Int.dvd_of_emod_eq_zero hxm) hdv.1)
    · have hle' : b ≤ n % boG a b + (0 + (t : Int)) * boG a b := hle
      rw [inIff _ (show 0 ≤ _ + -b by omega)]
      refine decide_eq_true ?_
      rw [show n % boG a b + (0 + (t : Int)) * boG a b + ((b, -b) : Int × Int).2 - n = (n % boG a b + (0 + (t : Int)) * boG a b - n) - b by simp only; omega]
      exact Int.emod_eq_zero_of_dvd (Int.dvd_sub (Int.dvd_of_emod_eq_zero hxm) hdv.2)
  · rw [inIff n hn.1]
    simp
  · rw [inIff y h1]
    exact decide_eq_false (by omega)
end
end Oc
set_option Elab.async false
set_option linter.all false
set_option maxRecDepth 100000
set_option maxHeartbeats 4000000
namespace Oc
open PySem PySem.Spec PyProof.Rows L2 Pv
/-- sums of a and b -/
def SuM (a b t : Int) : Prop := ∃ i j : Nat, t = i * a + j * b
section
variable {a b n : Int}
theorem SuM.nonneg (ha : 1 ≤ a) (hb : 1 ≤ b) {t : Int} (h : SuM a b t) : 0 ≤ t := by
  obtain ⟨i, j, rfl⟩ := h
  have h0 : 0 ≤ (i : Int) * a := Int.mul_nonneg (by omega) (by omega)
  have h1 : 0 ≤ (j : Int) * b := Int.mul_nonneg (by omega) (by omega)
  omega
theorem SuM.addA {t : Int} (h : SuM a b t) : SuM a b (t + a) := by
  obtain ⟨i, j, rfl⟩ := h
  refine ⟨i + 1, j, ?_⟩
  push_cast
  rw [Int.add_mul]
  omega
theorem SuM.addB {t : Int} (h : SuM a b t) : SuM a b (t + b) := by
  obtain ⟨i, j, rfl⟩ := h
  refine ⟨i, j + 1, ?_⟩
  push_cast
  rw [Int.add_mul (j : Int)]
  omega
theorem SuM.zero : SuM a b 0 := ⟨0, 0, by simp⟩
theorem SuM.dvd {t : Int} (h : SuM a b t) : boG a b ∣ t := by
  obtain ⟨i, j, rfl⟩ := h
  exact Int.dvd_add (Int.dvd_trans (boG_dvd a b).1 (Int.dvd_mul_left _ _)) (Int.dvd_trans (boG_dvd a b).2 (Int.dvd_mul_left _ _))
theorem su_has (ha : 1 ≤ a) (hb : 1 ≤ b) (hn : 0 ≤ n) {top y : Int} (hyt : y ≤ top) : has (ways (risesS (suSt a b)) n top) y = true ↔ SuM a b (y - n) := by
  obtain ⟨h1, h2⟩ := ways_full (n := n) (top := top) (suRs ha hb)
  rw [suRs_eq] at h1 h2 ⊢
  constructor
  · intro h
    obtain ⟨d, t, _⟩ := h2 y h
    obtain ⟨ks, r, _⟩ := t.run
    obtain ⟨c1, _, _⟩ := run_two r
    exact ⟨ks.count 0, ks.count 1, by simp only at c1; omega⟩
  · rintro ⟨i, j, h⟩
    obtain ⟨ks, r, _⟩ := su_run (top := top) ha hb (i + j) i j n rfl hn (by omega)
    rw [show n + (i : Int) * a + (j : Int) * b = y by omega] at r
    exact h1 ks y r
theorem su_come (ha : 1 ≤ a) (hb : 1 ≤ b) (hn : 0 ≤ n) {most : Int} (x : Int) : (comeS (risesS (suSt a b)) n most).contains x = true ↔ x ≤ most ∧ SuM a b (x - n) := by
  obtain ⟨t1, t2, t3⟩ := topS_big n most
  rw [List.contains_iff_mem, comeS, List.mem_filter, srt_mem, decide_eq_true_eq]
  have hk : x ∈ keysF (ways (risesS (suSt a b)) n (topS n most)) ↔ has (ways (risesS (suSt a b)) n (topS n most)) x = true := has_mem.symm
  rw [hk]
  constructor
  · rintro ⟨h1, h2⟩
    exact ⟨h2, (su_has ha hb hn (by omega)).mp h1⟩
  · rintro ⟨h2, h1⟩
    exact ⟨(su_has ha hb hn (by omega)).mpr h1, h2⟩
end
/-! ### what is true of the few sums, by counting -/
def memN (a b t : Nat) : Bool := (List.range 60).any fun j => decide (j * b ≤ t) && ((t - j * b) % a == 0)
def cN (a b : Nat) : Nat := Nat.gcd a b * (a / Nat.gcd a b - 1) * (b / Nat.gcd a b - 1)
def chkN (a b : Nat) : Bool :=
  decide (cN a b ≤ 56) && ((List.range (a / Nat.gcd a b)).all fun s => memN a b (cN a b + s * Nat.gcd a b)) && (cN a b == 0 || (decide (Nat.gcd a b ≤ cN a b) && !memN a b (cN a b - Nat.gcd a b))) &&
  (((List.range (cN a b / Nat.gcd a b)).filter fun k => !memN a b (k * Nat.gcd a b)).length == (a / Nat.gcd a b - 1) * (b / Nat.gcd a b - 1) / 2)
theorem chk_all : ((List.range 10).all fun a => (List.range 10).all fun b => (a == 0) || (b == 0) || chkN a b) = true := by decide +kernel
theorem chk {a b : Nat} (ha : 1 ≤ a ∧ a ≤ 9) (hb : 1 ≤ b ∧ b ≤ 9) : chkN a b = true := by
  have h := chk_all
  rw [List.all_eq_true] at h
  have h := h a (List.mem_range.mpr (by omega))
  rw [List.all_eq_true] at h
  have h := h b (List.mem_range.mpr (by omega))
  simp only [Bool.or_eq_true, beq_iff_eq] at h
  rcases h with (h | h) | h
  · omega
  · omega
  · exact h
theorem memN_iff {a b t : Nat} (ha : 1 ≤ a) (hb : 1 ≤ b) (ht : t < 60) : memN a b t = true ↔ SuM (a : Int) (b : Int) (t : Int) := by
  unfold memN
  rw [List.any_eq_true]
  constructor
  · rintro ⟨j, _, h⟩
    rw [Bool.and_eq_true, decide_eq_true_eq, beq_iff_eq] at h
    obtain ⟨i, hi⟩ := Nat.dvd_of_mod_eq_zero h.2
    refine ⟨i, j, ?_⟩
    have : t = a * i + j * b := by omega
    rw [this]
    push_cast
    rw [Int.mul_comm (a : Int)]
  · rintro ⟨i, j, h⟩
    have h' : t = i * a + j * b := by
      have : ((t : Nat) : Int) = ((i * a + j * b : Nat) : Int) := by
        push_cast
        exact h
      exact Int.ofNat_inj.mp this
    have hj : j < 60 := by
      have : j * 1 ≤ j * b := Nat.mul_le_mul_left j hb
      have := Nat.zero_le (i * a)
      omega
    refine ⟨j, List.mem_range.mpr hj, ?_⟩
    rw [Bool.and_eq_true, decide_eq_true_eq, beq_iff_eq]
    refine ⟨by omega, ?_⟩
    rw [h', Nat.add_sub_cancel]
    exact Nat.mul_mod_left _ _
end Oc
set_option Elab.async false
set_option linter.all false
set_option maxRecDepth 100000
set_option maxHeartbeats 4000000
namespace Oc
open PySem PySem.Spec PyProof.Rows L2 Pv
theorem memN_to {a b t : Nat} (h : memN a b t = true) : SuM (a : Int) (b : Int) (t : Int) := by
  unfold memN at h
  rw [List.any_eq_true] at h
  obtain ⟨j, _, h⟩ := h
  rw [Bool.and_eq_true, decide_eq_true_eq, beq_iff_eq] at h
  obtain ⟨i, hi⟩ := Nat.dvd_of_mod_eq_zero h.2
  refine ⟨i, j, ?_⟩
  have : t = a * i + j * b := by omega
  rw [this]
  push_cast
  rw [Int.mul_comm (a : Int)]
structure SuC (a b : Int) : Prop where
  low : 0 ≤ suLow a b ∧ suLow a b ≤ 56
  dvd : boG a b ∣ suLow a b
  one : 1 ≤ a / boG a b ∧ a / boG a b ≤ 9 ∧ 1 ≤ b / boG a b ∧ b / boG a b ≤ 9
  full : ∀ t, suLow a b ≤ t → boG a b ∣ t → SuM a b t
  gap : suLow a b = 0 ∨ (boG a b ≤ suLow a b ∧ ¬ SuM a b (suLow a b - boG a b))
  cnt : ∃ k : Nat, suLow a b = k * boG a b ∧ (((List.range k).filter fun k => !memN a.toNat b.toNat (k * Nat.gcd a.toNat b.toNat)).length : Int) = (a / boG a b - 1) * (b / boG a b - 1) / 2
theorem SuM.addAs {a b t : Int} (h : SuM a b t) : ∀ m : Nat, SuM a b (t + m * a)
  | 0 => by simpa using h
  | m + 1 => by
    have := (SuM.addAs h m).addA
    have e : ((m + 1 : Nat) : Int) * a = m * a + a := by
      push_cast
      rw [Int.add_mul]
      omega
    rw [e, ← Int.add_assoc]
    exact this
theorem suC {a b : Int} (ha : 1 ≤ a ∧ a ≤ 9) (hb : 1 ≤ b ∧ b ≤ 9) : SuC a b := by
  obtain ⟨a', rfl⟩ : ∃ k : Nat, a = (k : Int) := ⟨a.toNat, by omega⟩
  obtain ⟨b', rfl⟩ : ∃ k : Nat, b = (k : Int) := ⟨b.toNat, by omega⟩
  have hc := chk (a := a') (b := b') (by omega) (by omega)
  unfold chkN at hc
  simp only [Bool.and_eq_true, Bool.or_eq_true, decide_eq_true_eq, beq_iff_eq, Bool.not_eq_true', List.all_eq_true, List.mem_range] at hc
  obtain ⟨⟨⟨c1, c2⟩, c3⟩, c4⟩ := hc
  have hgp : 0 < Nat.gcd a' b' := Nat.gcd_pos_of_pos_left _ (by omega)
  have hga : Nat.gcd a' b' ∣ a' := Nat.gcd_dvd_left _ _
  have hgb : Nat.gcd a' b' ∣ b' := Nat.gcd_dvd_right _ _
  have hgle : Nat.gcd a' b' ≤ a' := Nat.le_of_dvd (by omega) hga
  have hgle2 : Nat.gcd a' b' ≤ b' := Nat.le_of_dvd (by omega) hgb
  have o1 : 1 ≤ a' / Nat.gcd a' b' := Nat.div_pos hgle hgp
  have o2 : 1 ≤ b' / Nat.gcd a' b' := Nat.div_pos hgle2 hgp
  have o3 : a' / Nat.gcd a' b' ≤ 9 := Nat.le_trans (Nat.div_le_self _ _) (by omega)
  have o4 : b' / Nat.gcd a' b' ≤ 9 := Nat.le_trans (Nat.div_le_self _ _) (by omega)
  have eg : boG (a' : Int) (b' : Int) = ((Nat.gcd a' b' : Nat) : Int) := rfl
  have e1 : (a' : Int) / boG (a' : Int) (b' : Int) = ((a' / Nat.gcd a' b' : Nat) : Int) := by
    rw [eg]
    exact (Int.natCast_ediv _ _).symm ▸ rfl
  have e2 : (b' : Int) / boG (a' : Int) (b' : Int) = ((b' / Nat.gcd a' b' : Nat) : Int) := by
    rw [eg]
    exact (Int.natCast_ediv _ _).symm ▸ rfl
  have el : suLow (a' : Int) (b' : Int) = ((cN a' b' : Nat) : Int) := by
    unfold suLow cN
    rw [e1, e2, eg]
    push_cast [Int.ofNat_sub o1, Int.ofNat_sub o2]
    rfl
  have hmulA : a' / Nat.gcd a' b' * Nat.gcd a' b' = a' := Nat.div_mul_cancel hga
  have hcd : Nat.gcd a' b' ∣ cN a' b' := by
    unfold cN
    rw [Nat.mul_assoc]
    exact Nat.dvd_mul_right _ _
  refine ⟨⟨by omega, by omega⟩, ?_, ⟨by omega, by omega, by omega, by omega⟩, fun t h1 h2 => ?_, ?_, ?_⟩
  · rw [el, eg]
    exact Int.natCast_dvd_natCast.mpr hcd
  · obtain ⟨t', rfl⟩ : ∃ k : Nat, t = (k : Int) := ⟨t.toNat, by omega⟩
    rw [el] at h1
    rw [eg] at h2
    have h2' := Int.natCast_dvd_natCast.mp h2
    obtain ⟨s, hs⟩ := Nat.dvd_sub h2' hcd
    have hts : t' = cN a' b' + s * Nat.gcd a' b' := by
      rw [Nat.mul_comm s]
      omega
    have hm := c2 (s % (a' / Nat.gcd a' b')) (Nat.mod_lt _ (by omega))
    have hS := (memN_to hm).addAs (s / (a' / Nat.gcd a' b'))
    have hdm := Nat.div_add_mod s (a' / Nat.gcd a' b')
    have e3 : s * Nat.gcd a' b' = s / (a' / Nat.gcd a' b') * a' + s % (a' / Nat.gcd a' b') * Nat.gcd a' b' := by
      have h1 : s * Nat.gcd a' b' = (a' / Nat.gcd a' b' * (s / (a' / Nat.gcd a' b')) + s % (a' / Nat.gcd a' b')) * Nat.gcd a' b' := by rw [hdm]
      rw [h1, Nat.add_mul, Nat.mul_comm (a' / Nat.gcd a' b'), Nat.mul_assoc, hmulA]
    have e4 : ((t' : Nat) : Int) = ((cN a' b' + s % (a' / Nat.gcd a' b') * Nat.gcd a' b' : Nat) : Int) + ((s / (a' / Nat.gcd a' b') : Nat) : Int) * (a' : Int) := by
      have : t' = cN a' b' + s % (a' / Nat.gcd a' b') * Nat.gcd a' b' + s / (a' / Nat.gcd a' b') * a' := by omega
      rw [this]
      push_cast
      rfl
    rw [e4]
    exact hS
  · rw [el, eg]
    rcases c3 with h | ⟨h1, h2⟩
    · left
      rw [h]
      rfl
    · right
      refine ⟨by omega, fun hm => ?_⟩
      have := (memN_iff (a := a') (b := b') (by omega) (by omega) (show cN a' b' - Nat.gcd a' b' < 60 by omega)).mpr (by
        rw [Int.ofNat_sub h1]
        exact hm)
      rw [h2] at this
      cases this
  · refine ⟨cN a' b' / Nat.gcd a' b', ?_, ?_⟩
    · rw [el, eg]
      have := Nat.div_mul_cancel hcd
      have h : ((cN a' b' : Nat) : Int) = ((cN a' b' / Nat.gcd a' b' * Nat.gcd a' b' : Nat) : Int) := by rw [this]
      rw [h]
      push_cast
      rfl
    · rw [e1, e2]
      simp only [Int.toNat_natCast]
      rw [c4]
      push_cast [Int.ofNat_sub o1, Int.ofNat_sub o2]
      rfl
end Oc
set_option Elab.async false
set_option linter.all false
set_option maxRecDepth 100000
set_option maxHeartbeats 4000000
namespace Oc
open PySem PySem.Spec PyProof.Rows L2 Pv
theorem fullGo_spec {kn : List Int} {g : Int} (hg : 0 < g) : ∀ (q : Nat) (low : Int), low.toNat < q → fullGo kn g q low ≤ low ∧ g ∣ low - fullGo kn g q low ∧ (∀ x, fullGo kn g q low ≤ x → x < low → g ∣ low - x → kn.contains x = true) ∧ ¬ (0 ≤ fullGo kn g q low - g ∧ kn.contains (fullGo kn g q low - g) = true)
  | 0, low, h => absurd h (Nat.not_lt_zero _)
  | q + 1, low, h => by
    rw [fullGo]
    by_cases hc : (decide (0 ≤ low - g) && kn.contains (low - g)) = true
    · rw [if_pos hc]
      rw [Bool.and_eq_true, decide_eq_true_eq] at hc
      obtain ⟨h1, h2, h3, h4⟩ := fullGo_spec (kn := kn) hg q (low - g) (by omega)
      refine ⟨by omega, ?_, fun x a1 a2 a3 => ?_, h4⟩
      · rw [show low - fullGo kn g q (low - g) = (low - g - fullGo kn g q (low - g)) + g by omega]
        exact Int.dvd_add h2 (Int.dvd_refl g)
      · by_cases hx : x < low - g
        · refine h3 x a1 hx ?_
          rw [show low - g - x = (low - x) - g by omega]
          exact Int.dvd_sub a3 (Int.dvd_refl g)
        · obtain ⟨k, hk⟩ := a3
          have hk1 : k = 1 := by
            have h5 : 0 < g * k := by omega
            have h6 : 0 < k := by
              rcases Int.lt_or_le 0 k with h | h
              · exact h
              · have := Int.mul_nonpos_of_nonneg_of_nonpos (show 0 ≤ g by omega) h
                omega
            have h7 : k < 2 := by
              rcases Int.lt_or_le k 2 with h | h
              · exact h
              · have := Int.mul_le_mul_of_nonneg_left h (show 0 ≤ g by omega)
                omega
            omega
          subst hk1
          have : x = low - g := by omega
          rw [this]
          exact hc.2
    · rw [if_neg hc]
      refine ⟨Int.le_refl _, by simp, fun x a1 a2 _ => by omega, fun z => hc ?_⟩
      rw [Bool.and_eq_true, decide_eq_true_eq]
      exact z
theorem srt_ext {l m : List Int} (hl : l.Nodup) (hm : m.Nodup) (hs : l.Pairwise (· ≤ ·)) (hs2 : m.Pairwise (· ≤ ·)) (h : ∀ x, x ∈ l ↔ x ∈ m) : l = m :=
  Pv.sorted_unique ((List.perm_ext_iff_of_nodup hl hm).mpr h) hs hs2
section
variable {a b n : Int}
theorem dvd_step {g x y : Int} (hg : 0 < g) (h : g ∣ x - y) (hlt : y < x) : y + g ≤ x := by
  obtain ⟨k, hk⟩ := h
  have : 1 ≤ k := by
    rcases Int.lt_or_le 0 k with h | h
    · exact h
    · have := Int.mul_nonpos_of_nonneg_of_nonpos (show 0 ≤ g by omega) h
      omega
  have := Int.mul_le_mul_of_nonneg_left this (show 0 ≤ g by omega)
  omega
theorem su_meas : measS (risesS (suSt a b)) = boG a b := by
  rw [suRs_eq]
  simp [measS, boG, Int.gcd]
/-- what the search for the low end gives -/
theorem su_low (ha : 1 ≤ a ∧ a ≤ 9) (hb : 1 ≤ b ∧ b ≤ 9) (hn : 0 ≤ n) {most : Int} (hm : n ≤ most) :
    let L := fullS (comeS (risesS (suSt a b)) n most) n (boG a b) most
    boG a b ∣ L - n ∧ (∃ top : Int, L ≤ top ∧ top ≤ most ∧ most < top + boG a b ∧ boG a b ∣ top - n ∧ ∀ x, L ≤ x → x < top → boG a b ∣ x - n → SuM a b (x - n)) ∧ (n + suLow a b < L → L ≤ most → False) := by
  intro L
  have C := suC ha hb
  have g0 : 0 < boG a b := boG_pos ha.1
  have hL : L = fullGo (comeS (risesS (suSt a b)) n most) (boG a b) ((most - (most - n) % boG a b).toNat + 1) (most - (most - n) % boG a b) := rfl
  have h1 := Int.emod_nonneg (most - n) (show boG a b ≠ 0 by omega)
  have h2 := Int.emod_lt_of_pos (most - n) g0
  have hdt : boG a b ∣ (most - (most - n) % boG a b) - n := by
    have := Int.mul_ediv_add_emod (most - n) (boG a b)
    rw [show most - (most - n) % boG a b - n = boG a b * ((most - n) / boG a b) by omega]
    exact Int.dvd_mul_right _ _
  obtain ⟨s1, s2, s3, s4⟩ := fullGo_spec (kn := comeS (risesS (suSt a b)) n most) g0 ((most - (most - n) % boG a b).toNat + 1) (most - (most - n) % boG a b) (Nat.lt_succ_self _)
  rw [← hL] at s1 s2 s3 s4
  have hd : boG a b ∣ L - n := by
    rw [show L - n = (most - (most - n) % boG a b - n) - (most - (most - n) % boG a b - L) by omega]
    exact Int.dvd_sub hdt s2
  refine ⟨hd, ⟨most - (most - n) % boG a b, s1, by omega, by omega, hdt, fun x a1 a2 a3 => ?_⟩, fun hlt hle => s4 ?_⟩
  · refine ((su_come ha.1 hb.1 hn x).mp (s3 x a1 a2 ?_)).2
    rw [show most - (most - n) % boG a b - x = (most - (most - n) % boG a b - n) - (x - n) by omega]
    exact Int.dvd_sub hdt a3
  · have hstep : n + suLow a b + boG a b ≤ L := dvd_step g0 (by
      rw [show L - (n + suLow a b) = (L - n) - suLow a b by omega]
      exact Int.dvd_sub hd C.dvd) hlt
    have := C.low
    refine ⟨by omega, (su_come ha.1 hb.1 hn _).mpr ⟨by omega, C.full _ (by omega) ?_⟩⟩
    rw [show L - boG a b - n = (L - n) - boG a b by omega]
    exact Int.dvd_sub hd (Int.dvd_refl _)
end
end Oc
set_option Elab.async false
set_option linter.all false
set_option maxRecDepth 100000
set_option maxHeartbeats 4000000
namespace Oc
open PySem PySem.Spec PyProof.Rows L2 Pv
theorem foldl_inv {α β : Type} (p : α → Prop) (f : α → β → α) : ∀ (l : List β) (s : α), p s → (∀ s x, x ∈ l → p s → p (f s x)) → p (l.foldl f s)
  | [], s, h, _ => h
  | x :: l, s, h, hf => foldl_inv p f l (f s x) (hf s x List.mem_cons_self h) fun s y hy => hf s y (List.mem_cons_of_mem _ hy)
theorem foldl_mem {β : Type} (f : List Int → β → List Int) (q : β → Int → Prop) (hf : ∀ s x y, y ∈ f s x ↔ y ∈ s ∨ q x y) : ∀ (l : List β) (s : List Int) (y : Int), y ∈ l.foldl f s ↔ y ∈ s ∨ ∃ x ∈ l, q x y
  | [], s, y => by simp
  | x :: l, s, y => by
    rw [List.foldl_cons, foldl_mem f q hf l (f s x) y, hf]
    simp only [List.mem_cons, exists_eq_or_imp, or_assoc]
theorem allS_nodup (a b low n : Int) : (allS a b low n).Nodup := by
  unfold allS
  refine foldl_inv (fun l : List Int => l.Nodup) _ _ _ (by simp) fun s x _ hs => ?_
  unfold allOut
  refine foldl_inv (fun l : List Int => l.Nodup) _ _ _ hs fun s y _ hs => ?_
  unfold allIn
  split
  · exact addK_nodup hs
  · exact hs
theorem allS_mem {a b low n : Int} (ha : 1 ≤ a) (hb : 1 ≤ b) (hl : 0 ≤ low) (y : Int) : y ∈ allS a b low n ↔ SuM a b (y - n) ∧ y - n < low := by
  have hin : ∀ (i : Int) (s : List Int) (j y : Int), y ∈ allIn a b low n i s j ↔ y ∈ s ∨ (i * a + j * b < low ∧ y = n + i * a + j * b) := fun i s j y => by
    unfold allIn
    split
    · rename_i h
      rw [addK_mem]
      simp [h]
    · rename_i h
      simp [h]
  have hout : ∀ (s : List Int) (i y : Int), y ∈ allOut a b low n s i ↔ y ∈ s ∨ ∃ j ∈ rgI 0 (low / b + 1).toNat, i * a + j * b < low ∧ y = n + i * a + j * b := fun s i y => by
    unfold allOut
    exact foldl_mem _ (fun j y => i * a + j * b < low ∧ y = n + i * a + j * b) (hin i) _ s y
  unfold allS
  rw [foldl_mem _ (fun i y => ∃ j ∈ rgI 0 (low / b + 1).toNat, i * a + j * b < low ∧ y = n + i * a + j * b) hout]
  constructor
  · rintro (h | ⟨i, hi, j, hj, h1, h2⟩)
    · cases h
    · obtain ⟨i', _, rfl⟩ := rgI_mem.mp hi
      obtain ⟨j', _, rfl⟩ := rgI_mem.mp hj
      exact ⟨⟨i', j', by rw [h2]; simp only [Int.zero_add]; omega⟩, by omega⟩
  · rintro ⟨⟨i, j, h⟩, hlt⟩
    have h0 : 0 ≤ (i : Int) * a := Int.mul_nonneg (by omega) (by omega)
    have h1 : 0 ≤ (j : Int) * b := Int.mul_nonneg (by omega) (by omega)
    have hi : (i : Int) ≤ low / a := (Int.le_ediv_iff_mul_le (by omega)).mpr (by omega)
    have hj : (j : Int) ≤ low / b := (Int.le_ediv_iff_mul_le (by omega)).mpr (by omega)
    exact .inr ⟨i, rgI_mem.mpr ⟨i, by omega, by simp⟩, j, rgI_mem.mpr ⟨j, by omega, by simp⟩, by omega, by omega⟩
section
variable {a b n : Int}
theorem suNums_mem (ha : 1 ≤ a ∧ a ≤ 9) (hb : 1 ≤ b ∧ b ≤ 9) (x : Int) : x ∈ suNums a b n ↔ SuM a b (x - n) ∧ x - n < suLow a b := by
  unfold suNums
  rw [srt_mem]
  exact allS_mem ha.1 hb.1 (suC ha hb).low.1 x
theorem suNums_nodup : (suNums a b n).Nodup := (srt_perm _).nodup_iff.mpr (allS_nodup _ _ _ _)
/-- what the shape is, if one is told -/
theorem su_upA (ha : 1 ≤ a ∧ a ≤ 9) (hb : 1 ≤ b ∧ b ≤ 9) (hn : 0 ≤ n) {most : Int} (hm : n ≤ most) {s : Shape} (h : shapeUp (risesS (suSt a b)) n (n, a) most = some s) : s = suShape a b n := by
  have C := suC ha hb
  have g0 : 0 < boG a b := boG_pos ha.1
  have gle : boG a b ≤ a := boG_le ha.1
  unfold shapeUp at h
  simp only [su_meas, mx2_max] at h
  obtain ⟨hd, ⟨top, t1, t2, t3, t4, t5⟩, hup⟩ := su_low ha hb hn hm
  generalize hLv : fullS (comeS (risesS (suSt a b)) n most) n (boG a b) most = L at h hd t1 t5 hup
  split at h
  · cases h
  · rename_i hc
    simp only [Bool.or_eq_true, Bool.not_eq_true', decide_eq_true_eq, not_or, Bool.not_eq_false, Int.not_lt] at hc
    obtain ⟨c1, c2⟩ := hc
    have hin := (su_come ha.1 hb.1 hn L).mp c1
    have hLn : n ≤ L := by
      have := hin.2.nonneg ha.1 hb.1
      omega
    have hLeq : L = n + suLow a b := by
      have hle : L ≤ n + suLow a b := by
        rcases Int.lt_or_le (n + suLow a b) L with z | z
        · exact (hup z hin.1).elim
        · exact z
      rcases C.gap with hz | ⟨hz1, hz2⟩
      · omega
      · rcases Int.lt_or_le L (n + suLow a b) with z | z
        · exfalso
          apply hz2
          have hst : L + boG a b ≤ n + suLow a b := dvd_step g0 (by
            rw [show n + suLow a b - L = suLow a b - (L - n) by omega]
            exact Int.dvd_sub C.dvd hd) z
          have htop : L + a ≤ top := by
            have hda : boG a b ∣ top - (L + (a - boG a b)) := by
              rw [show top - (L + (a - boG a b)) = (top - n) - (L - n) - a + boG a b by omega]
              exact Int.dvd_add (Int.dvd_sub (Int.dvd_sub t4 hd) (boG_dvd a b).1) (Int.dvd_refl _)
            have := dvd_step g0 hda (by omega)
            omega
          have hq := Int.mul_ediv_add_emod (n + suLow a b - boG a b - L) a
          have hr0 := Int.emod_nonneg (n + suLow a b - boG a b - L) (show a ≠ 0 by omega)
          have hr1 := Int.emod_lt_of_pos (n + suLow a b - boG a b - L) (show 0 < a by omega)
          have hq0 : 0 ≤ (n + suLow a b - boG a b - L) / a := Int.ediv_nonneg (by omega) (by omega)
          have hw : SuM a b (L + (n + suLow a b - boG a b - L) % a - n) := by
            refine t5 _ (by omega) (by omega) ?_
            rw [Int.emod_def, show L + (n + suLow a b - boG a b - L - a * ((n + suLow a b - boG a b - L) / a)) - n = suLow a b - boG a b - a * ((n + suLow a b - boG a b - L) / a) by omega]
            exact Int.dvd_sub (Int.dvd_sub C.dvd (Int.dvd_refl _)) (Int.dvd_trans (boG_dvd a b).1 (Int.dvd_mul_right _ _))
          have hw2 := hw.addAs ((n + suLow a b - boG a b - L) / a).toNat
          rw [Int.toNat_of_nonneg hq0, Int.mul_comm _ a] at hw2
          rw [show suLow a b - boG a b = L + (n + suLow a b - boG a b - L) % a - n + a * ((n + suLow a b - boG a b - L) / a) by omega]
          exact hw2
        · omega
    subst hLeq
    cases h
    unfold suShape
    congr 1
    refine srt_ext (List.Pairwise.filter _ (List.Pairwise.filter _ ((srt_perm _).nodup_iff.mpr (ways_good (suRs ha.1 hb.1)).nd))) suNums_nodup (List.Pairwise.filter _ (List.Pairwise.filter _ (srt_pw _))) (srt_pw _) fun x => ?_
    rw [List.mem_filter, suNums_mem ha hb, decide_eq_true_eq, ← List.contains_iff_mem, su_come ha.1 hb.1 hn]
    constructor
    · rintro ⟨⟨_, h2⟩, h3⟩
      exact ⟨h2, by omega⟩
    · rintro ⟨h2, h3⟩
      exact ⟨⟨by omega, h2⟩, by omega⟩
end
end Oc
set_option Elab.async false
set_option linter.all false
set_option maxRecDepth 100000
set_option maxHeartbeats 4000000
namespace Oc
open PySem PySem.Spec PyProof.Rows L2 Pv
section
variable {a b n : Int}
theorem su_upB (ha : 1 ≤ a ∧ a ≤ 9) (hb : 1 ≤ b ∧ b ≤ 9) (hn : 0 ≤ n) {most : Int} (hm : n + suLow a b + a ≤ most) : ∃ s, shapeUp (risesS (suSt a b)) n (n, a) most = some s := by
  have C := suC ha hb
  have g0 : 0 < boG a b := boG_pos ha.1
  have gle : boG a b ≤ a := boG_le ha.1
  have hlow := C.low
  unfold shapeUp
  simp only [su_meas, mx2_max]
  obtain ⟨hd, ⟨top, t1, t2, t3, t4, t5⟩, hup⟩ := su_low ha hb hn (show n ≤ most by omega)
  generalize fullS (comeS (risesS (suSt a b)) n most) n (boG a b) most = L at hd t1 t5 hup
  have hle : L ≤ n + suLow a b := by
    rcases Int.lt_or_le (n + suLow a b) L with z | z
    · exact (hup z (by omega)).elim
    · exact z
  have hc : (comeS (risesS (suSt a b)) n most).contains L = true := (su_come ha.1 hb.1 hn L).mpr ⟨by omega, t5 L (Int.le_refl L) (by omega) hd⟩
  rw [hc, if_neg ?_]
  · exact ⟨_, rfl⟩
  · simp only [Bool.not_true, Bool.false_or, decide_eq_true_eq]
    omega
theorem su_go (ha : 1 ≤ a ∧ a ≤ 9) (hb : 1 ≤ b ∧ b ≤ 9) (hn : 0 ≤ n) : ∀ (q : Nat) (most : Int), n ≤ most → n + suLow a b + a ≤ 2 ^ q * most → shapeGo (risesS (suSt a b)) n (n, a) (q + 1) most = some (suShape a b n)
  | 0, most, hm, h => by
    obtain ⟨s, hs⟩ := su_upB ha hb hn (show n + suLow a b + a ≤ most by simpa using h)
    rw [shapeGo, hs, su_upA ha hb hn hm hs]
  | q + 1, most, hm, h => by
    rw [shapeGo]
    cases hs : shapeUp (risesS (suSt a b)) n (n, a) most with
    | some s => rw [su_upA ha hb hn hm hs]
    | none =>
      refine su_go ha hb hn q (2 * most) (by omega) ?_
      have e : (2 : Int) ^ (q + 1) * most = 2 ^ q * (2 * most) := by
        rw [Int.pow_succ, Int.mul_assoc]
      rw [← e]
      exact h
theorem su_rising (ha : 1 ≤ a ∧ a ≤ 9) (hb : 1 ≤ b ∧ b ≤ 9) (hn : 0 ≤ n) : risingS (risesS (suSt a b)) n = some (n, a) := by
  have gd := ways_good (n := n) (top := n) (suRs ha.1 hb.1)
  have hmem : ∀ x ∈ srt (keysF (ways (risesS (suSt a b)) n n)), x = n := fun x hx => by
    have hx' := srt_mem.mp hx
    obtain ⟨p, hp, e⟩ := List.mem_map.mp hx'
    have h1 := gd.rg p hp
    rw [e] at h1
    have h2 := ((su_has ha.1 hb.1 hn (show x ≤ n by omega)).mp (has_mem.mpr hx')).nonneg ha.1 hb.1
    omega
  have hn' : n ∈ srt (keysF (ways (risesS (suSt a b)) n n)) := srt_mem.mpr (has_mem.mp ((ways_full (n := n) (top := n) (suRs ha.1 hb.1)).1 [] n Run.nil))
  have hra : risingAt (risesS (suSt a b)) n = [a, b] := by
    rw [suRs_eq]
    have h1 : decide ((0 : Int) ≤ n) = true := decide_eq_true hn
    have h2 : decide ((0 : Int) < a) = true := decide_eq_true (by omega)
    have h3 : decide ((0 : Int) < b) = true := decide_eq_true (by omega)
    unfold risingAt
    rw [List.filter_cons, List.filter_cons, List.filter_nil]
    simp only [h1, h2, h3, Bool.and_self, if_true]
    rfl
  unfold risingS
  cases hl : srt (keysF (ways (risesS (suSt a b)) n n)) with
  | nil =>
    rw [hl] at hn'
    cases hn'
  | cons x0 rest =>
    have h0 := hmem x0 (by rw [hl]; exact List.mem_cons_self)
    subst h0
    rw [List.findSome?_cons, hra]
    rfl
theorem su_shape (ha : 1 ≤ a ∧ a ≤ 9) (hb : 1 ≤ b ∧ b ≤ 9) (hn : 0 ≤ n ∧ n < 200) : ShapeIs (risesS (suSt a b)) n (suShape a b n) := by
  have C := suC ha hb
  have := C.low
  exact ShapeIs.rise (q := 6) (su_rising ha hb hn.1) (show 0 < a by omega) hn.1 (by rw [su_meas]; exact boG_pos ha.1) (su_go ha hb hn.1 6 _ (by show n ≤ 2 * (n + a); omega) (by show n + suLow a b + a ≤ 2 ^ 6 * (2 * (n + a)); omega)) (by show 2 ^ 6 * (2 * (n + a)) < 40000; omega)
theorem su_in (ha : 1 ≤ a ∧ a ≤ 9) (hb : 1 ≤ b ∧ b ≤ 9) (x : Int) : inS (suShape a b n) x = true ↔ SuM a b (x - n) := by
  have C := suC ha hb
  have g0 : 0 < boG a b := boG_pos ha.1
  unfold inS suShape
  simp only [Bool.or_eq_true, Bool.and_eq_true, decide_eq_true_eq, List.contains_iff_mem]
  rw [suNums_mem ha hb]
  constructor
  · rintro (h | ⟨_, h1, h2⟩)
    · exact h.1
    · refine C.full _ (by omega) ?_
      have h3 := Int.dvd_of_emod_eq_zero h2
      rw [show x - n = (x - (n + suLow a b)) + suLow a b by omega]
      exact Int.dvd_add h3 C.dvd
  · intro h
    rcases Int.lt_or_le (x - n) (suLow a b) with z | z
    · exact .inl ⟨h, z⟩
    · refine .inr ⟨g0, by omega, Int.emod_eq_zero_of_dvd ?_⟩
      rw [show x - (n + suLow a b) = (x - n) - suLow a b by omega]
      exact Int.dvd_sub h.dvd C.dvd
theorem su_cnt (ha : 1 ≤ a ∧ a ≤ 9) (hb : 1 ≤ b ∧ b ≤ 9) (hn : 0 ≤ n) {y : Int} (hy : y ≤ 300) (c : Int) : c ∈ suCounts a b n y ↔ ∃ i j : Nat, y - n = i * a + j * b ∧ c = i + j := by
  unfold suCounts
  simp only [List.mem_map, List.mem_filter, Bool.and_eq_true, decide_eq_true_eq]
  constructor
  · rintro ⟨j, ⟨hj, h1, h2⟩, rfl⟩
    obtain ⟨k, _, rfl⟩ := rgI_mem.mp hj
    have h3 := Int.ediv_mul_cancel (Int.dvd_of_emod_eq_zero h2)
    have h4 : 0 ≤ (y - n - (0 + (k : Int)) * b) / a := Int.ediv_nonneg h1 (by omega)
    refine ⟨((y - n - (0 + (k : Int)) * b) / a).toNat, k, ?_, ?_⟩
    · rw [Int.toNat_of_nonneg h4, h3]
      simp only [Int.zero_add]
      omega
    · rw [Int.toNat_of_nonneg h4]
      omega
  · rintro ⟨i, j, h, rfl⟩
    have h0 : 0 ≤ (i : Int) * a := Int.mul_nonneg (by omega) (by omega)
    have hj : (j : Int) ≤ j * b := by
      have := Int.mul_le_mul_of_nonneg_left hb.1 (show (0 : Int) ≤ j by omega)
      omega
    refine ⟨j, ⟨rgI_mem.mpr ⟨j, by omega, by simp⟩, by omega, ?_⟩, ?_⟩
    · rw [show y - n - (j : Int) * b = i * a by omega]
      exact Int.mul_emod_left _ _
    · rw [show y - n - (j : Int) * b = i * a by omega, Int.mul_ediv_cancel _ (by omega)]
theorem fault_any {y : Int} : ∀ (ks : List Nat) (p : Nat) (x : Int), 0 ≤ x → 0 ≤ a → 0 ≤ b → (∀ k ∈ ks, k < 2) → x + (ks.count 0 : Int) * a + (ks.count 1 : Int) * b = y → faultS [(0, a), (0, b)] y ks p x = .none
  | [], p, x, _, _, _, _, h => by
    have : x = y := by simpa using h
    rw [faultS, if_neg (fun z => z this)]
  | k :: ks, p, x, hx, ha, hb, hk, h => by
    have hk2 := hk k List.mem_cons_self
    match k, hk2 with
    | 0, _ =>
      rw [faultS]
      simp only [List.getElem?_cons_zero]
      rw [if_neg (by omega)]
      refine fault_any ks (p + 1) (x + a) (by omega) ha hb (fun k h => hk k (List.mem_cons_of_mem _ h)) ?_
      rw [List.count_cons_self, List.count_cons_of_ne (by decide)] at h
      push_cast at h
      rw [Int.add_mul] at h
      omega
    | 1, _ =>
      rw [faultS]
      simp only [List.getElem?_cons_succ, List.getElem?_cons_zero]
      rw [if_neg (by omega)]
      refine fault_any ks (p + 1) (x + b) (by omega) ha hb (fun k h => hk k (List.mem_cons_of_mem _ h)) ?_
      rw [List.count_cons_self, List.count_cons_of_ne (by decide)] at h
      push_cast at h
      rw [Int.add_mul (List.count 1 ks : Int)] at h
      omega
theorem su_yes (ha : 1 ≤ a ∧ a ≤ 9) (hb : 1 ≤ b ∧ b ≤ 9) (hn : 0 ≤ n) {y : Int} (hy0 : 0 ≤ y) (hy : y ≤ 300) (hs : suCounts a b n y ≠ []) : ∃ ws : List Nat, WordIs (risesS (suSt a b)) n y (some ws) ∧ has (ways (risesS (suSt a b)) n (topS n y)) y = true ∧ (ws.length : Int) ∈ suCounts a b n y ∧ (∀ c ∈ suCounts a b n y, (ws.length : Int) ≤ c) ∧ ws.length ≤ 1000 ∧
    n + (ws.count 0 : Int) * a + (ws.count 1 : Int) * b = y ∧ faultS (risesS (suSt a b)) y ws.reverse 0 n = .none ∧ ∀ k ∈ ws, k < 2 := by
  obtain ⟨t1, t2, t3⟩ := topS_big n y
  have runs : ∀ i j : Nat, y - n = i * a + j * b → ∃ ks, Run (risesS (suSt a b)) (topS n y) n ks y ∧ ks.length = i + j := fun i j h => by
    obtain ⟨ks, r, hl⟩ := su_run (top := topS n y) ha.1 hb.1 (i + j) i j n rfl hn (by omega)
    rw [show n + (i : Int) * a + (j : Int) * b = y by omega, ← suRs_eq] at r
    exact ⟨ks, r, hl⟩
  obtain ⟨c, hc⟩ := List.exists_mem_of_ne_nil _ hs
  obtain ⟨i, j, hij, _⟩ := (su_cnt ha hb hn hy c).mp hc
  obtain ⟨ks, r, hl⟩ := runs i j hij
  have hi0 : (i : Int) ≤ i * a := by
    have := Int.mul_le_mul_of_nonneg_left ha.1 (show (0 : Int) ≤ i by omega)
    omega
  have hj0 : (j : Int) ≤ j * b := by
    have := Int.mul_le_mul_of_nonneg_left hb.1 (show (0 : Int) ≤ j by omega)
    omega
  obtain ⟨ws, w1, w2, w3, w4⟩ := wordOf (suRs ha.1 hb.1) r (by omega)
  have hle := w4 ks r
  rw [suRs_eq] at w3
  obtain ⟨c1, c2, c3⟩ := run_two w3
  simp only at c1
  refine ⟨ws, w1, w2, (su_cnt ha hb hn hy _).mpr ⟨ws.count 0, ws.count 1, by omega, by omega⟩, fun c hc => ?_, by omega, by omega, ?_, c3⟩
  · obtain ⟨i, j, hij, rfl⟩ := (su_cnt ha hb hn hy c).mp hc
    obtain ⟨ks, r, hl⟩ := runs i j hij
    have := w4 ks r
    omega
  · rw [suRs_eq]
    refine fault_any _ 0 n hn (by omega) (by omega) (fun k hk => c3 k (List.mem_reverse.mp hk)) ?_
    rw [List.count_reverse, List.count_reverse]
    omega
end
end Oc
set_option Elab.async false
set_option linter.all false
set_option maxRecDepth 100000
set_option maxHeartbeats 4000000
namespace Oc
open PySem PySem.Spec PyProof.Rows L2 Pv
section
variable {a b n : Int}
theorem suF (ha : 1 ≤ a ∧ a ≤ 9) (hb : 1 ≤ b ∧ b ≤ 9) (hn : 0 ≤ n ∧ n < 200) (rg : ∃ N, RgC (n % boG a b) (n + suLow a b) (boG a b) N ∧ N ≤ 1000 ∧ gapsS (suShape a b n) n = some ((rgS (n % boG a b) (boG a b) N).filter fun x => !(suNums a b n).contains x) ∧
    (((rgS (n % boG a b) (boG a b) N).filter fun x => !(suNums a b n).contains x).length : Int) = (a / boG a b - 1) * (b / boG a b - 1) / 2 + n / boG a b) : SuF a b n := by
  have C := suC ha hb
  have g0 : 0 < boG a b := boG_pos ha.1
  have g9 : boG a b ≤ 9 := Int.le_trans (boG_le ha.1) ha.2
  have hlow := C.low
  have rng : ∀ x ∈ suNums a b n, n ≤ x ∧ x < n + suLow a b := fun x hx => by
    obtain ⟨h1, h2⟩ := (suNums_mem ha hb x).mp hx
    have := h1.nonneg ha.1 hb.1
    omega
  have hlen : (suNums a b n).length ≤ 500 := by
    have := count_le (suNums a b n) 400 suNums_nodup (fun x hx => by
      have := rng x hx
      omega)
    omega
  have noS : ∀ y, y ≤ 300 → suCounts a b n y = [] → ¬ SuM a b (y - n) := fun y hy h ⟨i, j, hij⟩ => by
    have := (su_cnt ha hb hn.1 hy ((i : Int) + j)).mpr ⟨i, j, hij, rfl⟩
    rw [h] at this
    cases this
  have inF : ∀ y, ¬ SuM a b (y - n) → inS (suShape a b n) y = false := fun y h => by
    cases e : inS (suShape a b n) y with
    | false => rfl
    | true => exact absurd ((su_in ha hb y).mp e) h
  refine ⟨g0, g9, C.one, ⟨hlow.1, by omega⟩, su_shape ha hb hn, rg, su_meas, by rw [su_rising ha hb hn.1]; rfl, fun y h0 h1 h2 => ?_, fun y h0 h1 h2 => su_yes ha hb hn.1 h0 h1 h2, fun x hx => ?_, ?_, ?_, ?_, hlen, fun x hx => ?_⟩
  · have hno := noS y h1 h2
    have hrun : ∀ ks, ¬ Run (risesS (suSt a b)) (topS n y) n ks y := fun ks r => by
      rw [suRs_eq] at r
      obtain ⟨c1, _, _⟩ := run_two r
      simp only at c1
      exact hno ⟨ks.count 0, ks.count 1, by omega⟩
    obtain ⟨w1, w2⟩ := noWord (suRs ha.1 hb.1) hrun
    exact ⟨w2, w1, inF y hno⟩
  · by_cases h : (x - n) % boG a b = 0
    · rw [decide_eq_true h]
      exact (su_in ha hb x).mpr (C.full _ (by omega) (Int.dvd_of_emod_eq_zero h))
    · rw [decide_eq_false h]
      exact inF x fun hs => h (Int.emod_eq_zero_of_dvd hs.dvd)
  · unfold isShapeS suShape
    simp only [Bool.and_eq_true]
    refine ⟨⟨⟨⟨decide_eq_true hlen, ?_⟩, zip_lt _ (srt_lt (allS_nodup _ _ _ _))⟩, ⟨decide_eq_true (by omega), decide_eq_true (by omega)⟩⟩, ⟨decide_eq_true (by omega), decide_eq_true (by omega)⟩⟩
    rw [List.all_eq_true]
    intro x hx
    have := rng x hx
    simp
    omega
  · intro x hx r hr hle
    have hxs : SuM a b (x - n) := by
      unfold someS suShape at hx
      rcases List.mem_append.mp hx with h | h
      · exact ((suNums_mem ha hb x).mp h).1
      · simp only at h
        rw [if_pos g0] at h
        obtain ⟨t, ht, rfl⟩ := List.mem_map.mp h
        obtain ⟨k, _, rfl⟩ := rgI_mem.mp ht
        have h0 : 0 ≤ (0 + (k : Int)) * boG a b := Int.mul_nonneg (by omega) (by omega)
        refine C.full _ (by omega) ?_
        rw [show n + suLow a b + (0 + (k : Int)) * boG a b - n = suLow a b + (0 + (k : Int)) * boG a b by omega]
        exact Int.dvd_add C.dvd (Int.dvd_mul_left _ _)
    rw [suRs_eq] at hr
    have hr' : r = (0, a) ∨ r = (0, b) := by simpa using hr
    refine (su_in ha hb _).mpr ?_
    rcases hr' with rfl | rfl
    · rw [show x + ((0, a) : Int × Int).2 - n = (x - n) + a by simp only; omega]
      exact hxs.addA
    · rw [show x + ((0, b) : Int × Int).2 - n = (x - n) + b by simp only; omega]
      exact hxs.addB
  · refine (su_in ha hb n).mpr ?_
    rw [Int.sub_self]
    exact SuM.zero
  · have := rng x hx
    omega
end
end Oc
set_option Elab.async false
set_option linter.all false
set_option maxRecDepth 100000
set_option maxHeartbeats 4000000
namespace Oc
open PySem PySem.Spec PyProof.Rows L2 Pv
theorem rgS_mem {lo g : Int} {n : Nat} {x : Int} : x ∈ rgS lo g n ↔ ∃ k : Nat, k < n ∧ x = lo + k * g := by
  unfold rgS
  rw [List.mem_map]
  constructor
  · rintro ⟨k, h, rfl⟩
    exact ⟨k, List.mem_range.mp h, rfl⟩
  · rintro ⟨k, h, rfl⟩
    exact ⟨k, List.mem_range.mpr h, rfl⟩
theorem rgSize_up {r g : Int} (hg : 0 < g) (M : Nat) : Builtin.Range.rangeSize r (r + M * g) g = M := by
  unfold Builtin.Range.rangeSize
  rw [if_pos hg]
  cases M with
  | zero => rw [if_neg (by simp)]; rfl
  | succ M =>
    have e : ((M + 1 : Nat) : Int) * g = M * g + g := by
      push_cast
      rw [Int.add_mul, Int.one_mul]
    have h0 : 0 ≤ (M : Int) * g := Int.mul_nonneg (by omega) (by omega)
    rw [e, if_pos (by omega), show r + (M * g + g) - r - 1 = (g - 1) + M * g by omega, Int.add_mul_ediv_right _ _ (by omega), Int.ediv_eq_zero_of_lt (by omega) (by omega)]
    omega
theorem fits {i : Int} (h : -1000000 ≤ i) (h2 : i ≤ 1000000) : Builtin.Range.rangeFitsLong i = true := by
  unfold Builtin.Range.rangeFitsLong
  rw [Bool.and_eq_true, decide_eq_true_eq, decide_eq_true_eq]
  omega
theorem rgC_up {r g : Int} (hg : 0 < g) (h9 : g ≤ 9) (h0 : 0 ≤ r) (h1 : r ≤ 1000) (M : Nat) (hM : M ≤ 1000) (h2 : r + M * g ≤ 100000) : RgC r (r + M * g) g M := by
  have h3 : 0 ≤ (M : Int) * g := Int.mul_nonneg (by omega) (by omega)
  refine ⟨by omega, by omega, ?_, rgSize_up hg M⟩
  unfold Builtin.Range.small
  rw [rgSize_up hg M, if_pos hg]
  simp only [Bool.and_eq_true, Bool.or_eq_true]
  exact ⟨⟨⟨⟨fits (by omega) (by omega), fits (by omega) (by omega)⟩, fits (by omega) (by omega)⟩, fits (by omega) (by omega)⟩, .inr (fits (by omega) (by omega))⟩
theorem rgS_lt {r g : Int} (hg : 0 < g) (M : Nat) : (rgS r g M).Pairwise (· < ·) := by
  unfold rgS
  rw [List.pairwise_map]
  refine List.pairwise_lt_range.imp fun {x y} h => ?_
  have := Int.mul_lt_mul_of_pos_right (show (x : Int) < y by omega) hg
  omega
theorem rgI_lt' (lo : Int) (n : Nat) : (rgI lo n).Pairwise (· < ·) := by
  unfold rgI
  rw [List.pairwise_map]
  exact List.pairwise_lt_range.imp fun {x y} h => by omega
theorem lt_ext {l m : List Int} (hl : l.Pairwise (· < ·)) (hm : m.Pairwise (· < ·)) (h : ∀ x, x ∈ l ↔ x ∈ m) : l = m :=
  srt_ext (hl.imp fun h => by omega) (hm.imp fun h => by omega) (hl.imp fun h => by omega) (hm.imp fun h => by omega) h
theorem rgI_step {r g n : Int} (hg : 0 < g) (h0 : 0 ≤ r) (hr : r < g) (M : Nat) (hn : n % g = r) : ((rgI 0 (r + M * g).toNat).filter fun x => decide ((x - n) % g = 0)) = rgS r g M := by
  refine lt_ext ((rgI_lt' _ _).filter _) (rgS_lt hg M) fun x => ?_
  have hd : n = g * (n / g) + r := by
    have := Int.mul_ediv_add_emod n g
    omega
  rw [List.mem_filter, rgI_mem, rgS_mem, decide_eq_true_eq]
  constructor
  · rintro ⟨⟨k, hk, rfl⟩, h⟩
    have e : (0 + (k : Int) - n) % g = (k - r) % g := by
      rw [show (0 + (k : Int) - n) = (k - r) + (-(n / g)) * g by
        rw [Int.neg_mul, Int.mul_comm]
        omega, Int.add_mul_emod_self_right]
    rw [e] at h
    obtain ⟨c, hc⟩ := Int.dvd_of_emod_eq_zero h
    have c0 : 0 ≤ c := by
      rcases Int.lt_or_le c 0 with z | z
      · have := Int.mul_le_mul_of_nonneg_left (show c ≤ -1 by omega) (show 0 ≤ g by omega)
        omega
      · exact z
    have cM : c < M := by
      rcases Int.lt_or_le c M with z | z
      · exact z
      · have := Int.mul_le_mul_of_nonneg_left z (show 0 ≤ g by omega)
        rw [Int.mul_comm g (M : Int)] at this
        omega
    refine ⟨c.toNat, by omega, ?_⟩
    rw [Int.toNat_of_nonneg c0, Int.mul_comm]
    omega
  · rintro ⟨k, hk, rfl⟩
    have h1 : 0 ≤ (k : Int) * g := Int.mul_nonneg (by omega) (by omega)
    have h2 := Int.mul_lt_mul_of_pos_right (show (k : Int) < M by omega) hg
    refine ⟨⟨(r + k * g).toNat, by omega, by omega⟩, ?_⟩
    refine Int.emod_eq_zero_of_dvd ⟨k - n / g, ?_⟩
    rw [Int.mul_sub, Int.mul_comm g (k : Int)]
    omega
section
variable {a b n : Int}
theorem su_rg (ha : 1 ≤ a ∧ a ≤ 9) (hb : 1 ≤ b ∧ b ≤ 9) (hn : 0 ≤ n ∧ n < 200) : ∃ N, RgC (n % boG a b) (n + suLow a b) (boG a b) N ∧ N ≤ 1000 ∧ gapsS (suShape a b n) n = some ((rgS (n % boG a b) (boG a b) N).filter fun x => !(suNums a b n).contains x) ∧
    (((rgS (n % boG a b) (boG a b) N).filter fun x => !(suNums a b n).contains x).length : Int) = (a / boG a b - 1) * (b / boG a b - 1) / 2 + n / boG a b := by
  have C := suC ha hb
  have g0 : 0 < boG a b := boG_pos ha.1
  have g9 : boG a b ≤ 9 := Int.le_trans (boG_le ha.1) ha.2
  have hlow := C.low
  obtain ⟨k, hk, hcnt⟩ := C.cnt
  have r0 := Int.emod_nonneg n (show boG a b ≠ 0 by omega)
  have r1 := Int.emod_lt_of_pos n g0
  have hd := Int.mul_ediv_add_emod n (boG a b)
  have q0 : 0 ≤ n / boG a b := Int.ediv_nonneg hn.1 (by omega)
  have q1 : n / boG a b ≤ n := Int.ediv_le_self _ hn.1
  obtain ⟨Q, hQ⟩ := Int.eq_ofNat_of_zero_le q0
  have k1 : (k : Int) ≤ k * boG a b := by
    have := Int.mul_le_mul_of_nonneg_left (show 1 ≤ boG a b by omega) (show (0 : Int) ≤ k by omega)
    omega
  have eM : n + suLow a b = n % boG a b + ((Q + k : Nat) : Int) * boG a b := by
    push_cast
    rw [Int.add_mul, ← hk, ← hQ, Int.mul_comm (n / boG a b)]
    omega
  refine ⟨Q + k, ?_, by omega, ?_, ?_⟩
  · rw [eM]
    exact rgC_up g0 g9 r0 (by omega) _ (by omega) (by omega)
  · unfold gapsS suShape
    simp only
    rw [if_neg (by omega), ← rgI_step g0 r0 r1 (Q + k) rfl, List.filter_filter, eM]
    congr 1
    exact List.filter_congr fun x _ => Bool.and_comm _ _
  · unfold rgS
    rw [List.range_add, List.map_append, List.filter_append, List.length_append, List.map_map]
    have e1 : ((List.range Q).map fun (k : Nat) => n % boG a b + (k : Int) * boG a b).filter (fun x => !(suNums a b n).contains x) = (List.range Q).map fun (k : Nat) => n % boG a b + (k : Int) * boG a b := by
      refine List.filter_eq_self.mpr fun x hx => ?_
      obtain ⟨i, hi, rfl⟩ := List.mem_map.mp hx
      have hi := List.mem_range.mp hi
      rw [Bool.not_eq_true', ← Bool.not_eq_true, List.contains_iff_mem]
      intro hm
      obtain ⟨h1, _⟩ := (suNums_mem ha hb _).mp hm
      have := h1.nonneg ha.1 hb.1
      have h2 := Int.mul_lt_mul_of_pos_right (show (i : Int) < Q by omega) g0
      rw [← hQ, Int.mul_comm (n / boG a b)] at h2
      omega
    have e2 : ((List.range k).map ((fun (k : Nat) => n % boG a b + (k : Int) * boG a b) ∘ fun x => Q + x)).filter (fun x => !(suNums a b n).contains x) =
        ((List.range k).filter fun k => !memN a.toNat b.toNat (k * Nat.gcd a.toNat b.toNat)).map ((fun (k : Nat) => n % boG a b + (k : Int) * boG a b) ∘ fun x => Q + x) := by
      rw [List.filter_map]
      congr 1
      refine List.filter_congr fun i hi => ?_
      have hi := List.mem_range.mp hi
      have h2 := Int.mul_lt_mul_of_pos_right (show (i : Int) < k by omega) g0
      have h3 : 0 ≤ (i : Int) * boG a b := Int.mul_nonneg (by omega) (by omega)
      have eg : ((Nat.gcd a.toNat b.toNat : Nat) : Int) = boG a b := by
        unfold boG Int.gcd
        rw [show a.natAbs = a.toNat by omega, show b.natAbs = b.toNat by omega]
      have et : ((i * Nat.gcd a.toNat b.toNat : Nat) : Int) = i * boG a b := by
        push_cast
        rw [← eg]
      have ex : ((fun (k : Nat) => n % boG a b + (k : Int) * boG a b) ∘ fun x => Q + x) i = n + i * boG a b := by
        show n % boG a b + ((Q + i : Nat) : Int) * boG a b = _
        push_cast
        rw [Int.add_mul, ← hQ, Int.mul_comm (n / boG a b)]
        omega
      show (!(suNums a b n).contains (((fun (k : Nat) => n % boG a b + (k : Int) * boG a b) ∘ fun x => Q + x) i)) = _
      rw [ex]
      congr 1
      rw [Bool.eq_iff_iff, List.contains_iff_mem, memN_iff (by omega) (by omega) (by omega), suNums_mem ha hb, et, show n + i * boG a b - n = i * boG a b by omega, Int.toNat_of_nonneg (by omega), Int.toNat_of_nonneg (by omega)]
      exact ⟨fun h => h.1, fun h => ⟨h, by omega⟩⟩
    rw [e1, e2, List.length_map, List.length_map, List.length_range]
    push_cast
    rw [hcnt, hQ]
    omega
theorem suFF (ha : 1 ≤ a ∧ a ≤ 9) (hb : 1 ≤ b ∧ b ≤ 9) (hn : 0 ≤ n ∧ n < 200) : SuF a b n := suF ha hb hn (su_rg ha hb hn)
end
end Oc
set_option Elab.async false
set_option linter.all false
set_option maxRecDepth 100000
set_option maxHeartbeats 4000000
namespace Pv
open PySem PySem.Spec PyProof.Rows L2
/-! ### the law's end: from the head's heap into the world -/
def odd : Data → Bool
  | .seq _ _ => true
  | .fields v => v.isEmpty
  | _ => false
/-- what is tracked at the start: tables, and the script's list if it is not known -/
structure Tr (K : PySem.W.Frag) (h : Heap) (H : Hp) (ts : List Addr) : Prop where
  all : ∀ b u, H b = some u → K.lookup b = none ∧ ((b ∈ ts ∧ u = .tbl #[] ∧ h.get? b = some { cls := .none, data := .fields #[] }) ∨ ∃ o x its n, u = .frz o x ∧ h.get? b = some o ∧ o.data = .seq its n)
  tab : ∀ b ∈ ts, H b = some (.tbl #[])
section
variable {K : PySem.W.Frag} {h : Heap} {H : Hp} {ts : List Addr} {mg : Str → Option Value}
theorem Tr.un (T : Tr K h H ts) {b : Addr} {o : Obj} (e : h.get? b = some o) (d : odd o.data = false) : H b = none := by
  cases q : H b with
  | none => rfl
  | some u =>
    rcases (T.all b u q).2 with ⟨_, _, z⟩ | ⟨o', _, its, n, _, z, z2⟩
    · rw [e] at z
      rw [Option.some.inj z] at d
      cases d
    · rw [e] at z
      rw [Option.some.inj z, z2] at d
      cases d
theorem Tr.see (T : Tr K h H ts) {b : Addr} {o : Obj} (e : h.get? b = some o) (d : odd o.data = false) : (hidT h H).get? b = some o := hidT_get e (T.un e d)
theorem Tr.kin (T : Tr K h H ts) (k : K.In h) : K.In (hidT h H) := fun b o e => hidT_get (k b o e) (by
  cases q : H b with
  | none => rfl
  | some u =>
    have z := (T.all b u q).1
    rw [e] at z
    cases z)
theorem Tr.ns (T : Tr K h H ts) {b : Addr} {m : Str → Option Value} (n : h.Ns b m) : (hidT h H).Ns b m := by
  obtain ⟨o, es, ep, e, d, r⟩ := n
  exact ⟨o, es, ep, T.see e (by rw [d]; rfl), d, r⟩
theorem Tr.mod (T : Tr K h H ts) (k : K.In h) (g : h.Ns mainGlobals mg) {mb : Str → Option Value} (b : h.Ns builtinsNs mb) (bb : ∀ x : Str, x ≠ "__name__" → mb x = bootBuiltins x) (l : h.NoLimit) : L2.Mod K mg (hidT h H) := by
  obtain ⟨mc, l1, l2⟩ := l
  exact ⟨T.kin k, T.ns g, ⟨mb, T.ns b, bb⟩, mc, T.ns l1, l2⟩
theorem Tr.tabB (T : Tr K h H ts) (g : h.Ns mainGlobals mg) (hbm : ∃ (bm : Addr) (ob : Obj), mg "__builtins__" = some (.ref bm) ∧ bm ≠ builtinsNs ∧ h.get? bm = some ob ∧ ob.cls = .type "module" ∧ ob.dict = some builtinsNs ∧ ob.data = .plain)
    {c p : Addr} (e : h.get? p = some { cls := .none, data := .fields #[] }) (C : PySem.W.CodeHd h c p) : LamX.TabB (hidT h H) mg c p := by
  obtain ⟨bm, ob, b1, b2, b3, b4, b5, b6⟩ := hbm
  obtain ⟨og, eg, ng, g1, g2, _⟩ := g
  have ap : ∀ {q : Addr} {o : Obj}, h.get? q = some o → o.data ≠ .fields #[] → q ≠ p := fun {q o} k d z => by
    rw [z, e] at k
    rw [← Option.some.inj k] at d
    exact d rfl
  refine ⟨?_, ⟨bm, ob, b1, b2, fun z => ?_, ap b3 (by rw [b6]; exact fun z => nomatch z), T.see b3 (by rw [b6]; rfl), b4, b5, b6⟩, ap g1 (by rw [g2]; exact fun z => nomatch z)⟩
  · obtain ⟨o, us, file, tf, flags, tg, inF, text, tt, e1, r1, r2, r3, r4⟩ := C
    refine ⟨o, us, file, tf, flags, tg, inF, text, tt, T.see e1 ?_, r1, r2, r3, r4⟩
    rw [r2]
    show us.isEmpty = false
    cases q : us.isEmpty with
    | false => rfl
    | true =>
      rw [Array.isEmpty_iff.mp q] at r3
      simp at r3
  · rw [z, g1] at b3
    rw [← Option.some.inj b3, g2] at b6
    cases b6
theorem Tr.old {P : Program} {w : World} {H' : Hp} {h' : Heap} {cs : List (Addr × Addr)} (T : Tr K h H (cs.map Prod.snd)) (hT : ∀ p ∈ cs, h.get? p.2 = some { cls := .none, data := .fields #[] }) (C : ∀ p ∈ cs, PySem.W.CodeHd h p.1 p.2)
    (u : Un (frs []) [] H H' h h') (ok : HOk P w H' h') : OldK h h' := by
  have key : ∀ b o, h.get? b = some o → b ∉ cs.map Prod.snd → h'.get? b = some o := fun b o e nb => by
    cases q : H b with
    | none => exact u.keep b o e q (fun z => nomatch (show b ∈ ([] : List Addr) from z)) (fun z => nomatch z)
    | some v =>
      rcases (T.all b v q).2 with ⟨z, _⟩ | ⟨o', x, _, _, z, z2, _⟩
      · exact (nb z).elim
      · rw [z] at q
        rw [e] at z2
        rw [Option.some.inj z2]
        exact (ok b _ (u.frzs b o' x q)).1
  have grow : ∀ b, b ∈ cs.map Prod.snd → ∃ more : Array Value, h'.get? b = some { cls := .none, data := .fields more } := fun b hb => by
    obtain ⟨more, z⟩ := u.tbls b #[] (T.tab b hb)
    exact ⟨_, ok b _ z⟩
  refine ⟨fun b o e => ?_, fun b o e => ?_⟩
  · by_cases hb : b ∈ cs.map Prod.snd
    · obtain ⟨more, z⟩ := grow b hb
      obtain ⟨p, hp, rfl⟩ := List.mem_map.mp hb
      have e2 := hT p hp
      rw [e] at e2
      rw [Option.some.inj e2]
      exact .inr (.inl ⟨((C p hp).tab (hT p hp)).isCodeTable, rfl, #[], more, rfl, by rw [Array.empty_append]; exact z⟩)
    · exact .inl (key b o e hb)
  · by_cases hb : b ∈ cs.map Prod.snd
    · obtain ⟨more, z⟩ := grow b hb
      exact ⟨_, z⟩
    · exact ⟨o, key b o e hb⟩
end
abbrev obS (vs : List Value) : Obj := { cls := .type "list", data := .seq vs.toArray }
def hp0 (K : PySem.W.Frag) (a : Addr) (ob : Obj) (u : HO) (ts : List Addr) : Hp := fun b => if b ∈ ts then some (.tbl #[]) else if b = a ∧ K.lookup a = none then some (.frz ob u) else none
theorem hp0_tr {K : PySem.W.Frag} {h : Heap} {a : Addr} {ob : Obj} {u : HO} {ts : List Addr} {its : Array Value} {n : Nat} (ha : h.get? a = some ob) (hd : ob.data = .seq its n) (hT : ∀ b ∈ ts, h.get? b = some { cls := .none, data := .fields #[] } ∧ K.lookup b = none) :
    Tr K h (hp0 K a ob u ts) ts := by
  refine ⟨fun b v e => ?_, fun b hb => if_pos hb⟩
  unfold hp0 at e
  by_cases hb : b ∈ ts
  · rw [if_pos hb] at e
    exact ⟨(hT b hb).2, .inl ⟨hb, (Option.some.inj e).symm, (hT b hb).1⟩⟩
  · rw [if_neg hb] at e
    by_cases hc : b = a ∧ K.lookup a = none
    · rw [if_pos hc] at e
      rw [hc.1]
      exact ⟨hc.2, .inr ⟨ob, u, its, n, (Option.some.inj e).symm, ha, hd⟩⟩
    · rw [if_neg hc] at e
      cases e
/-- the world at the start: the script is told, the tables are the def's own -/
def wd0 (K : PySem.W.Frag) (a : Addr) (ob : Obj) (u : HO) (ts : List Addr) : Wd where
  H := hp0 K a ob u ts
  F := fun b => if b ∈ ts then none else hp0 K a ob u ts b
  sub := fun b o e => by
    by_cases hb : b ∈ ts
    · rw [if_pos hb] at e
      cases e
    · rw [if_neg hb] at e
      exact e
theorem dp_ints (K : PySem.W.Frag) (F : Hp) : ∀ ns : List Int, DpAll K F (ns.map V.int) (ns.map PyData.int)
  | [] => .nil
  | n :: r => .cons (Dp.int n) (dp_ints K F r)
/-- the law's call, from the promise of its def -/
theorem call_end {P : Program} {w : World} {K : PySem.W.Frag} {mg mb : Str → Option Value} {k : Nat} {fa a : Addr} {cs : List (Addr × Addr)} {fd : FuncData} {x : Str} {sp : Spg} {s₁ : Shared} {vs : List Value} {ns : List Int}
    (KX : K.In s₁.heap) (hns : s₁.heap.Ns mainGlobals mg) (hb : s₁.heap.Ns builtinsNs mb) (hbb : ∀ x : Str, x ≠ "__name__" → mb x = bootBuiltins x) (hlim : s₁.heap.NoLimit) (hg : s₁.gens = #[])
    (hT : ∀ p ∈ cs, s₁.heap.get? p.2 = some { cls := .none, data := .fields #[] }) (nT : ∀ p ∈ cs, K.lookup p.2 = none) (C : ∀ p ∈ cs, PySem.W.CodeHd s₁.heap p.1 p.2)
    (hbm : ∃ (bm : Addr) (ob : Obj), mg "__builtins__" = some (.ref bm) ∧ bm ≠ builtinsNs ∧ s₁.heap.get? bm = some ob ∧ ob.cls = .type "module" ∧ ob.dict = some builtinsNs ∧ ob.data = .plain)
    (ha : s₁.heap.get? a = some { cls := .type "list", data := .seq vs.toArray }) (hi : IntsAre vs ns) (hl : ns.length ≤ sizeLine) (hr : RoomG k callerA)
    (F : ∀ base : Heap, K.In base → base.Ns mainGlobals mg → (∀ p ∈ cs, LamX.TabB base mg p.1 p.2) → FnG P w K mg base k fa fd [x] sp) (hbind : ∀ (s : Shared) (u : Value), BindsTo s fd ⟨[u], []⟩ [(x, u)])
    (hsp : ∀ W : Wd, (∀ p ∈ cs, W.H p.2 = some (.tbl #[]) ∧ W.F p.2 = none) → Is K W.F (.ref a) (.d (.list (ns.map .int))) → sp [.ref a] W.H (fun v _ => v = .bl true)) :
    codeAny (model P w) callerA (.call (.ref fa) ⟨[.ref a], []⟩) (fun r s' => r = .ok (.ret (.bool true)) ∧ OldK s₁.heap s'.heap ∧ s'.os = s₁.os ∧ AllBare s'.gens) s₁ := by
  have hv := vals_ints hi
  have hT2 : ∀ b ∈ cs.map Prod.snd, s₁.heap.get? b = some { cls := .none, data := .fields #[] } ∧ K.lookup b = none := fun b hb => by
    obtain ⟨p, hp, rfl⟩ := List.mem_map.mp hb
    exact ⟨hT p hp, nT p hp⟩
  have T := hp0_tr (ob := obS vs) (u := .lst (ns.map V.int)) (ts := cs.map Prod.snd) ha rfl hT2
  have at_ : ∀ p ∈ cs, p.2 ∈ cs.map Prod.snd := fun p hp => List.mem_map.mpr ⟨p, hp, rfl⟩
  have aT : a ∉ cs.map Prod.snd := fun z => by
    have q := (hT2 a z).1
    rw [ha] at q
    cases q
  have ok : HOk P w (wd0 K a (obS vs) (.lst (ns.map V.int)) (cs.map Prod.snd)).H s₁.heap := fun b u e => by
    rcases (T.all b u e).2 with ⟨_, z, z2⟩ | ⟨o, y, _, _, z, z2, _⟩
    · rw [z]
      exact z2
    · rw [z] at e
      have e' : hp0 K a (obS vs) (.lst (ns.map V.int)) (cs.map Prod.snd) b = some (.frz o y) := e
      unfold hp0 at e'
      split at e'
      · cases e'
      · split at e'
        · next hc =>
          obtain ⟨e3, e4⟩ := HO.frz.inj (Option.some.inj e')
          subst e3 e4
          rw [z, hc.1]
          exact ⟨ha, by rw [List.length_map]; exact hl, vs, _, hv, ha⟩
        · cases e'
  have told : Is K (wd0 K a (obS vs) (.lst (ns.map V.int)) (cs.map Prod.snd)).F (.ref a) (.d (.list (ns.map .int))) := by
    refine Dp.lst ?_ (dp_ints K _ ns)
    cases q : K.lookup a with
    | none =>
      refine .inl (.inr ⟨obS vs, ?_⟩)
      show (if a ∈ cs.map Prod.snd then none else hp0 K a (obS vs) (.lst (ns.map V.int)) (cs.map Prod.snd) a) = _
      rw [if_neg aT]
      unfold hp0
      rw [if_neg aT, if_pos ⟨rfl, q⟩]
    | some o =>
      have e := KX a o q
      rw [ha] at e
      cases e
      exact .inr ⟨_, vs.toArray, _, q, rfl, rfl, rfl, by rw [List.size_toArray, hi.length]; exact hl, hv⟩
  have e0 : Env0 P w K mg (hidT s₁.heap (wd0 K a (obS vs) (.lst (ns.map V.int)) (cs.map Prod.snd)).H) callerA [] s₁ (wd0 K a (obS vs) (.lst (ns.map V.int)) (cs.map Prod.snd)).H :=
    ⟨rfl, T.mod KX hns hb hbb hlim, fun b o e => of_hidT e, Nat.le_of_eq (hidT_size _ _), trivial, (fun b hb => nomatch (show b ∈ ([] : List Addr) from hb)), ok, .of_eq hg⟩
  have go := (F _ (T.kin KX) (T.ns hns) fun p hp => T.tabB hns hbm (hT p hp) (C p hp)).run callerA [] s₁ (wd0 K a (obS vs) (.lst (ns.map V.int)) (cs.map Prod.snd)).H ⟨[.ref a], []⟩ [.ref a] [.ref a] (fun v _ => v = .bl true) hr e0 (hbind s₁ (.ref a)) (.cons rfl .nil)
    (hsp (wd0 K a (obS vs) (.lst (ns.map V.int)) (cs.map Prod.snd)) (fun p hp => ⟨T.tab _ (at_ p hp), if_pos (at_ p hp)⟩) told)
  refine codeAny_mono go fun r s' q => ?_
  cases r with
  | error e => exact False.elim q
  | ok fl =>
    cases fl with
    | ret u =>
      obtain ⟨v, H', os, bare, un, ok', rv, q'⟩ := q
      have q2 : v = .bl true := q'
      subst q2
      obtain rfl : u = Value.bool true := rv
      exact ⟨rfl, T.old hT C un ok', os, bare⟩
    | _ => exact False.elim q
theorem roomG_start {k : Nat} (h : k ≤ 12) : RoomG k callerA := by
  exact RoomG.mono ⟨⟨rfl, by decide, by decide⟩, rfl⟩ h
end Pv
set_option Elab.async false
set_option linter.all false
set_option maxRecDepth 100000
set_option maxHeartbeats 4000000
namespace Pv
open PySem PySem.Spec PyProof.Rows L2
/-- what the head's heap tells of the law -/
structure LawG (l : PySem.W.OpenLaw) (w : World) (K : PySem.W.Frag) (k n : Nat) (x : Str) (mg : Str → Option Value) (fa : Addr) (h : Heap) (cs : List (Addr × Addr)) : Prop where
  kin : K.In h
  tab : ∀ p ∈ cs, h.get? p.2 = some { cls := .none, data := .fields #[] }
  out : ∀ p ∈ cs, K.lookup p.2 = none
  code : ∀ p ∈ cs, PySem.W.CodeHd h p.1 p.2
  law : ∃ (fd : FuncData) (sp : Spg), (∀ (s : Shared) (u : Value), BindsTo s fd ⟨[u], []⟩ [(x, u)]) ∧
    (∀ base : Heap, K.In base → base.Ns mainGlobals mg → (∀ p ∈ cs, LamX.TabB base mg p.1 p.2) → FnG l.prog w K mg base k fa fd [x] sp) ∧
    ∀ (W : Wd) (a : Addr) (ns : List Int), ns.length ≤ n → (∀ z ∈ ns, Builtin.Int.intBits z ≤ 1048576) → (∀ p ∈ cs, W.H p.2 = some (.tbl #[]) ∧ W.F p.2 = none) → Is K W.F (.ref a) (.d (.list (ns.map .int))) → sp [.ref a] W.H (fun v _ => v = .bl true)
theorem walkG {l : PySem.W.OpenLaw} {n k : Nat} {q : Program} {loose : List Str} {XP : (Str → Option Value) → Heap → Prop} {YP : World → Heap → Prop} {d : DefRec} {x : Str}
    (hn : l.most = some n) (hn2 : n ≤ sizeLine) (hdf : d.params.defaults = []) (hk : k ≤ 12)
    (F : ∀ (w : World) (mg : Str → Option Value) (fa : Addr) (h : Heap), YP w h → h.Ns mainGlobals mg → mg d.name = some (.ref fa) → ∃ (K : PySem.W.Frag) (cs : List (Addr × Addr)), LawG l w K k n x mg fa h cs) :
    PySem.W.WalkO q loose XP YP l.row.toRowW d [] (fun f vs => PySem.call f vs) := by
  refine Att.attach_callB hn hdf fun w s₀ s₁ mg mb fa o pm cd doc a vs ns G Y _ _ _ hmg hobj hints hlen hbits hg => ?_
  obtain ⟨K, cs, L⟩ := F w mg fa _ Y G.T.g hmg
  obtain ⟨fd, sp, hb, hF, hsp⟩ := L.law
  exact call_end L.kin G.T.g G.T.b G.T.builtins G.T.nolimit hg L.tab L.out L.code G.T.bmain hobj hints (Nat.le_trans hlen hn2) (roomG_start hk) hF hb fun W hW hi => hsp W a ns hlen hbits hW hi
section
variable {fa : List He.Fa} {fn : List He.DefD} {K : PySem.W.Frag} {h : Heap} {mg : Str → Option Value} {x q : Str} {st : Stmt}
theorem fd_of (X : K.In h) (G : h.Ns mainGlobals mg) (c : He.SaysD fa fn K) (i j : Nat) (hi : fa[i]? = some (.glo x) := by rfl) (hj : fn[j]? = some ⟨(x, none), x, x, defArgs st, defBody st, defScope st, [], []⟩ := by rfl) : Fd K mg x st := by
  obtain ⟨fd, F⟩ := c.def_ j hj
  exact ⟨_, fd, He.glo_ok X G (c.fact i hi), F⟩
theorem lm_of {base : Heap} {T : List (Addr × Str)} (X : K.In h) (G : h.Ns mainGlobals mg) (c : He.SaysD fa fn K) (i j : Nat) (TB : LamX.TabB base mg (He.cT K (x, none)).1 (He.cT K (x, none)).2) (hT : ((He.cT K (x, none)).2, q) ∈ T) (hu : ∀ p ∈ T, p.1 = (He.cT K (x, none)).2 → p.2 = q)
    (hi : fa[i]? = some (.glo x) := by rfl) (hj : fn[j]? = some ⟨(x, none), x, x, defArgs st, defBody st, defScope st, [], []⟩ := by rfl) : Lm K mg base T x st q := by
  obtain ⟨fd, F⟩ := c.def_ j hj
  have F' : FnD K x st (He.fAd K (x, none)) fd := F
  obtain ⟨oc, od, dV, kV, doc, pm, an, cdv, ct, osl, e, lk, hcd, _, _⟩ := F'.ex
  obtain ⟨cc, e2⟩ := He.codeIn_ref hcd
  have e3 : fd.code = .ref cc := by rw [e]; exact e2
  have e4 := He.codeOf_eq lk e3
  refine ⟨_, fd, (He.cT K (x, none)).2, (He.cT K (x, none)).1, He.glo_ok X G (c.fact i hi), F', ?_, TB, hT, hu⟩
  rw [e3]
  exact congrArg Value.ref e4.symm
end
theorem Cl.fn' {P : Program} {w : World} {K : PySem.W.Frag} {mg : Str → Option Value} {base : Heap} {k : Nat} {s : Str} {st : Stmt} {ps : List Str} {sp : Spg} (C : Cl P w K mg base k s st ps sp) {f : Addr} {fd : FuncData} (hm : mg s = some (.ref f)) (F : FnD K s st f fd) : FnG P w K mg base k f fd ps sp := by
  obtain ⟨f', fd', h1, h2, h3⟩ := C.ex
  rw [hm] at h1
  have e : f = f' := Value.ref.inj (Option.some.inj h1)
  subst e
  obtain ⟨_, _, _, _, _, _, _, _, _, _, _, l1, _⟩ := F.ex
  obtain ⟨_, _, _, _, _, _, _, _, _, _, _, l2, _⟩ := h2.ex
  rw [l1] at l2
  injection l2 with l2
  injection l2 with _ _ l2 _
  injection l2 with l2
  subst l2
  exact h3
end Pv
set_option Elab.async false
set_option linter.all false
set_option maxRecDepth 100000
set_option maxHeartbeats 4000000
namespace K38
open PySem PySem.Spec PyProof.Rows L2 Pv Oc
theorem md_of {K : PySem.W.Frag} {h : Heap} {mg : Str → Option Value} (X : K.In h) (G : h.Ns mainGlobals mg) (c : He.SaysD fa fn K) : Md K mg where
  fr := fun s hs => by
    have e : s ∈ BN := hs
    simp only [BN, List.mem_cons, List.not_mem_nil, or_false] at e
    rcases e with rfl | rfl | rfl | rfl | rfl | rfl | rfl | rfl | rfl | rfl | rfl | rfl | rfl | rfl | rfl | rfl | rfl | rfl | rfl | rfl
    · exact He.free_ok X G (c.fact 48 (f := .free "ValueError") rfl)
    · exact He.free_ok X G (c.fact 49 (f := .free "abs") rfl)
    · exact He.free_ok X G (c.fact 50 (f := .free "all") rfl)
    · exact He.free_ok X G (c.fact 51 (f := .free "bool") rfl)
    · exact He.free_ok X G (c.fact 52 (f := .free "dict") rfl)
    · exact He.free_ok X G (c.fact 53 (f := .free "enumerate") rfl)
    · exact He.free_ok X G (c.fact 54 (f := .free "int") rfl)
    · exact He.free_ok X G (c.fact 55 (f := .free "isinstance") rfl)
    · exact He.free_ok X G (c.fact 56 (f := .free "len") rfl)
    · exact He.free_ok X G (c.fact 57 (f := .free "list") rfl)
    · exact He.free_ok X G (c.fact 58 (f := .free "max") rfl)
    · exact He.free_ok X G (c.fact 59 (f := .free "min") rfl)
    · exact He.free_ok X G (c.fact 60 (f := .free "range") rfl)
    · exact He.free_ok X G (c.fact 61 (f := .free "repr") rfl)
    · exact He.free_ok X G (c.fact 62 (f := .free "reversed") rfl)
    · exact He.free_ok X G (c.fact 63 (f := .free "sorted") rfl)
    · exact He.free_ok X G (c.fact 64 (f := .free "str") rfl)
    · exact He.free_ok X G (c.fact 65 (f := .free "super") rfl)
    · exact He.free_ok X G (c.fact 66 (f := .free "tuple") rfl)
    · exact He.free_ok X G (c.fact 67 (f := .free "zip") rfl)
  d_is_number := fd_of X G c 0 0
  d_is_within := fd_of X G c 1 1
  d_change_of := fd_of X G c 2 2
  d_rises_of := fd_of X G c 3 3
  d_ways_within := fd_of X G c 4 4
  d_top_for := fd_of X G c 5 5
  d_come_numbers := fd_of X G c 6 6
  d_comes_to := fd_of X G c 7 7
  d_rising_step := fd_of X G c 8 8
  d_is_endless := fd_of X G c 9 9
  d_net_measure := fd_of X G c 10 10
  d_full_from := fd_of X G c 11 11
  d_shape_up_to := fd_of X G c 12 12
  d_come_shape := fd_of X G c 13 13
  d_is_in_shape := fd_of X G c 14 14
  d_come_gaps := fd_of X G c 15 15
  d_way_or_none := fd_of X G c 16 16
  d_fewest_to := fd_of X G c 17 17
  d_way_to := fd_of X G c 18 18
  d_are_counter_steps := fd_of X G c 19 19
  d_number_fault := fd_of X G c 20 20
  d_way_to_error := fd_of X G c 21 21
  d_number_paper := fd_of X G c 22 22
  d_is_shape := fd_of X G c 23 23
  d_open_fault := fd_of X G c 24 24
  d_shape_fault := fd_of X G c 25 25
  d_number_paper_error := fd_of X G c 26 26
  d__law_own_bag := fd_of X G c 27 27
  d__law_draw := fd_of X G c 28 28
  d__law_pick := fd_of X G c 29 29
  d__law_told := fd_of X G c 30 30
  d__law_same := fd_of X G c 31 31
  d__law_is := fd_of X G c 32 32
  d__law_shared := fd_of X G c 33 33
  d__law_are_sums := fd_of X G c 34 34
  d__law_all := fd_of X G c 35 35
  d__law_is_emptied := fd_of X G c 36 36
  d__law_is_both := fd_of X G c 37 37
  i_MAX_WEIGHT := He.int_ok X G (c.fact 42 (f := .int "MAX_WEIGHT" 9) rfl)
  i_MAX_TOKENS := He.int_ok X G (c.fact 43 (f := .int "MAX_TOKENS" 1000000000) rfl)
  i_MAX_LISTED := He.int_ok X G (c.fact 44 (f := .int "MAX_LISTED" 500) rfl)
  i_MOST_ABOVE := He.int_ok X G (c.fact 45 (f := .int "MOST_ABOVE" 18) rfl)
  i_FREE_FROM := He.int_ok X G (c.fact 46 (f := .int "FREE_FROM" 9) rfl)
  i_MOST_TERMS := He.int_ok X G (c.fact 47 (f := .int "MOST_TERMS" 30) rfl)
def lamT (K : PySem.W.Frag) : List (Addr × Str) := tf.map fun p => ((He.cT K p).2, p.1 ++ ".<locals>.<lambda>")
theorem tfm1 : (("_law_is_emptied", none) : He.Defn) ∈ tf := List.mem_cons_of_mem _ (List.mem_cons_self ..)
theorem tfm2 : (("_law_is_both", none) : He.Defn) ∈ tf := List.mem_cons_of_mem _ (List.mem_cons_of_mem _ (List.mem_cons_self ..))
theorem tfm3 : (("_law_are_sums", none) : He.Defn) ∈ tf := List.mem_cons_self ..
theorem apart_inj {α : Type} (f : α → Addr) : ∀ l : List α, apart (l.map f) = true → ∀ q ∈ l, ∀ q' ∈ l, f q = f q' → q = q'
  | [], _, q, hq, _, _, _ => nomatch hq
  | a :: l, h, q, hq, q', hq', e => by
    have h' : ((l.map f).all fun b => !(Nat.beq (f a) b)) = true ∧ apart (l.map f) = true := by
      simpa only [List.map_cons, apart, Bool.and_eq_true] using h
    have ne : ∀ x ∈ l, f a ≠ f x := fun x hx z => by
      have w := List.all_eq_true.mp h'.1 (f x) (List.mem_map.mpr ⟨x, hx, rfl⟩)
      rw [z] at w
      have : Nat.beq (f x) (f x) = true := Nat.beq_refl _
      rw [this] at w
      cases w
    rcases List.mem_cons.mp hq with e1 | h1
    · rcases List.mem_cons.mp hq' with e2 | h2
      · rw [e1, e2]
      · rw [e1] at e
        exact absurd e (ne _ h2)
    · rcases List.mem_cons.mp hq' with e2 | h2
      · rw [e2] at e
        exact absurd e.symm (ne _ h1)
      · exact apart_inj f l h'.2 q h1 q' h2 e
theorem law_end {w : World} {mg : Str → Option Value} {fa' : Addr} {h : Heap} {K : PySem.W.Frag} (X : K.In h) (G : h.Ns mainGlobals mg) (hmg : mg "law" = some (.ref fa')) (c : He.SaysX fa fn [] tf exT w h K) :
    LawG PySem.Challenge.rw_tokensteps_k38_whole_numbers_by_formula w K 12 63 "script" mg fa' h (tf.map (He.cT K)) := by
  have cD := c.t.d
  have e := hmg.symm.trans (He.glo_ok X G (cD.fact 38 (f := .glo "law") rfl))
  cases e
  have ap : apart (tf.map fun p => (He.cT K p).2) = true := c.more
  refine ⟨X, fun p hp => ?_, fun p hp => ?_, fun p hp => ?_, ?_⟩
  · obtain ⟨q, hq, rfl⟩ := List.mem_map.mp hp
    exact c.empty q hq
  · obtain ⟨q, hq, rfl⟩ := List.mem_map.mp hp
    exact c.out q hq
  · obtain ⟨q, hq, rfl⟩ := List.mem_map.mp hp
    exact PySem.W.codeHd_of_K X (c.hd q hq)
  · have M := md_of X G cD
    have D : Fd K mg "law" s_law := fd_of X G cD 38 38
    obtain ⟨fd, F⟩ := cD.def_ 38 (d := d_law) rfl
    have F' : FnD K "law" s_law (He.fAd K ("law", none)) fd := F
    have hu : ∀ q ∈ tf, ∀ p ∈ lamT K, p.1 = (He.cT K q).2 → p.2 = q.1 ++ ".<locals>.<lambda>" := by
      intro q hq p hp e
      obtain ⟨q', hq', rfl⟩ := List.mem_map.mp hp
      have e2 : q' = q := apart_inj (fun p => (He.cT K p).2) tf ap q' hq' q hq e
      rw [e2]
    have inT : ∀ q ∈ tf, ((He.cT K q).2, q.1 ++ ".<locals>.<lambda>") ∈ lamT K := fun q hq => List.mem_map.mpr ⟨q, hq, rfl⟩
    have inC : ∀ q ∈ tf, He.cT K q ∈ tf.map (He.cT K) := fun q hq => List.mem_map.mpr ⟨q, hq, rfl⟩
    refine ⟨fd, lawSp K (lamT K), fun s v => ?_, fun base hK hG TB => ?_, fun W a ns hl _ hW hi => ?_⟩
    · have b := FunD.bindsA (ps := ["script"]) F' fun _ _ _ _ _ _ us hl => match us, hl with | [_], _ => rfl
      exact b s [v] rfl
    · have C := fn_law (P := PySem.Challenge.rw_tokensteps_k38_whole_numbers_by_formula.prog) (w := w) (K := K) (mg := mg) (base := base) (T := lamT K) M D
        (lm_of X G cD 36 36 (TB _ (inC _ tfm1)) (inT _ tfm1) (hu _ tfm1))
        (lm_of X G cD 37 37 (TB _ (inC _ tfm2)) (inT _ tfm2) (hu _ tfm2))
        (lm_of X G cD 34 34 (TB _ (inC _ tfm3)) (inT _ tfm3) (hu _ tfm3))
        (fun a want n h1 h2 h3 h4 h5 => emF h1 h2 h3 h4 h5) (fun a b n h1 h2 h3 h4 h5 h6 => boF ⟨h1, h2⟩ ⟨h3, h4⟩ ⟨h5, h6⟩) (fun a b n h1 h2 h3 h4 h5 h6 => suFF ⟨h1, h2⟩ ⟨h3, h4⟩ ⟨h5, h6⟩)
      exact C.fn' hmg F'
    · refine ⟨W, .ref a, ns, rfl, rfl, hi, fun p hp => ?_, fun p hp => ?_, fun _ => rfl⟩
      · obtain ⟨q, hq, rfl⟩ := List.mem_map.mp hp
        exact LamX.TabS.nil (hW _ (inC q hq)).1
      · obtain ⟨q, hq, rfl⟩ := List.mem_map.mp hp
        exact (hW _ (inC q hq)).2
end K38
set_option Elab.async false
set_option linter.all false
set_option maxRecDepth 100000
set_option maxHeartbeats 0
open PySem PySem.W PyProof.Rows
theorem PySem.Challenge.cw_tokensteps_k38_whole_numbers_by_formula_holds : PySem.Challenge.rw_tokensteps_k38_whole_numbers_by_formula.Holds := by
  w_on; o_law
  refine HandSHeadRun.head_any (r := OpenLaw.row PySem.Challenge.rw_tokensteps_k38_whole_numbers_by_formula) (q := view (OpenLaw.row PySem.Challenge.rw_tokensteps_k38_whole_numbers_by_formula).prog [53]) (H := K38.hk) (ob := K38.ob) (M := 4000) (loose := K38.loose) (d := HandSHeadRun.topDef (OpenLaw.row PySem.Challenge.rw_tokensteps_k38_whole_numbers_by_formula).prog 53) (kwd := []) K38.ob_eq
    (by kernel_rfl) (fun s => by kernel_rfl) K38.run (by kernel_rfl) (by kernel_rfl) (by kernel_rfl) (by rfl) (by first | assumption | decide +kernel) (by decide +kernel) ⟨rfl, rfl, rfl, rfl, rfl, by decide +kernel⟩ ?hw ?hc
  case hw => w_witness2
  case hc =>
    refine Pv.walkG (l := PySem.Challenge.rw_tokensteps_k38_whole_numbers_by_formula) (n := 63) (k := 12) (x := "script") rfl (by decide) (by kernel_rfl) (by decide) ?F
    intro w mg fa h Y G hmg0
    obtain ⟨K, KX, c⟩ := Y
    have hmg : mg ("law" : PySem.Str) = some (.ref fa) := by
      have e : (HandSHeadRun.topDef (OpenLaw.row PySem.Challenge.rw_tokensteps_k38_whole_numbers_by_formula).prog 53).name = ("law" : PySem.Str) := by kernel_rfl
      rw [← e]
      exact hmg0
    exact ⟨K, _, K38.law_end KX G hmg c⟩
