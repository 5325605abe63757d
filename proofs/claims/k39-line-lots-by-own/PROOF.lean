import PyProof.Rows.All
import Wide.All
import OpenK.AllK
import Wide.FinOn
import KE.KStateDown
import HandS.ForMost
import HandS.Exc
import HandS.ExcOwn
import HandS.Defaults
import HandS.Head0
import HandS.Head1
import HandS.Head2
import HandS.HeadEnd
import HandS.HeadHook1
import HandS.HeadHook2
import HandS.HeadHook3
import HandS.HeadHook4
import HandS.HeadWalk
import KE.KLam
import HandS.Codes
import HandS.TryOnly
import HandS.Lambda
import HandS.Evl
import HandS.Zip
import HandS.Style
import HandS.SortInts
import HandS.TupMul
import HandS.TupAny
import HandS.IsInst
import KE.KRevSl
import HandS.More
import KE.GoesMore
import HandS.MakeKwOnly
import HandS.Flt
import PyProof.ReprRoads
import HandS.RevTup
import HandS.Rev
import PyProof.ListNew
import HandS.Wide
import KE.KDictZip
import KE.GoesZip
import KE.SortData
import KE.DataMinMax
import KE.DataCmp
import HandS.Deep
import HandS.TupSets
import PySem.Challenge.RW_tokensteps_k39_whole_line_lots_by_own
set_option Elab.async false
set_option linter.all false
set_option maxRecDepth 100000
set_option maxHeartbeats 0
namespace K39
open PySem PySem.Spec PyProof.Rows L2
def top (i : Nat) : Stmt := PySem.Challenge.pw_tokensteps_k39_whole_line_lots_by_own.main.body.getD i (.Pass ⟨0, 0, 0, 0⟩)
abbrev s_is_number : Stmt := top 9
abbrev s_is_within : Stmt := top 10
abbrev s_are_numbers : Stmt := top 11
abbrev s_is_way : Stmt := top 13
abbrev s_line_lot_error : Stmt := top 14
abbrev s_lots_error : Stmt := top 15
abbrev s_often_gone : Stmt := top 16
abbrev s_is_way_sum : Stmt := top 17
abbrev s_is_in_lot : Stmt := top 18
abbrev s_is_in_lots : Stmt := top 19
abbrev s_grid_points : Stmt := top 20
abbrev s_lot_states : Stmt := top 21
abbrev s_is_below : Stmt := top 23
abbrev s_least_often : Stmt := top 25
abbrev s_gone_on : Stmt := top 26
abbrev s_let_bases : Stmt := top 27
abbrev s_first_apart_state : Stmt := top 29
abbrev s__law_own_bag : Stmt := top 31
abbrev s__law_draw : Stmt := top 32
abbrev s__law_told : Stmt := top 33
abbrev s__law_same : Stmt := top 34
abbrev s__law_is : Stmt := top 35
abbrev s__law_way : Stmt := top 36
abbrev s__law_lot : Stmt := top 37
abbrev s__law_times : Stmt := top 38
abbrev s__law_is_sum : Stmt := top 39
abbrev s__law_is_in : Stmt := top 40
abbrev s__law_total : Stmt := top 41
abbrev s__law_are_sums : Stmt := top 42
abbrev s__law_are_bases : Stmt := top 43
abbrev s__law_are_states : Stmt := top 44
abbrev s__law_are_halves : Stmt := top 45
abbrev s__law_are_errors : Stmt := top 46
abbrev s_law : Stmt := top 47
abbrev dD (x : Str) (st : Stmt) : He.DefD := ⟨(x, none), x, x, defArgs st, defBody st, defScope st, [], []⟩
def d_is_number : He.DefD := dD "is_number" s_is_number
def d_is_within : He.DefD := dD "is_within" s_is_within
def d_are_numbers : He.DefD := dD "are_numbers" s_are_numbers
def d_is_way : He.DefD := dD "is_way" s_is_way
def d_line_lot_error : He.DefD := dD "line_lot_error" s_line_lot_error
def d_lots_error : He.DefD := dD "lots_error" s_lots_error
def d_often_gone : He.DefD := dD "often_gone" s_often_gone
def d_is_way_sum : He.DefD := dD "is_way_sum" s_is_way_sum
def d_is_in_lot : He.DefD := dD "is_in_lot" s_is_in_lot
def d_is_in_lots : He.DefD := dD "is_in_lots" s_is_in_lots
def d_grid_points : He.DefD := dD "grid_points" s_grid_points
def d_lot_states : He.DefD := dD "lot_states" s_lot_states
def d_is_below : He.DefD := dD "is_below" s_is_below
def d_least_often : He.DefD := dD "least_often" s_least_often
def d_gone_on : He.DefD := dD "gone_on" s_gone_on
def d_let_bases : He.DefD := dD "let_bases" s_let_bases
def d_first_apart_state : He.DefD := dD "first_apart_state" s_first_apart_state
def d__law_own_bag : He.DefD := dD "_law_own_bag" s__law_own_bag
def d__law_draw : He.DefD := dD "_law_draw" s__law_draw
def d__law_told : He.DefD := dD "_law_told" s__law_told
def d__law_same : He.DefD := dD "_law_same" s__law_same
def d__law_is : He.DefD := dD "_law_is" s__law_is
def d__law_way : He.DefD := dD "_law_way" s__law_way
def d__law_lot : He.DefD := dD "_law_lot" s__law_lot
def d__law_times : He.DefD := dD "_law_times" s__law_times
def d__law_is_sum : He.DefD := dD "_law_is_sum" s__law_is_sum
def d__law_is_in : He.DefD := dD "_law_is_in" s__law_is_in
def d__law_total : He.DefD := dD "_law_total" s__law_total
def d__law_are_sums : He.DefD := dD "_law_are_sums" s__law_are_sums
def d__law_are_bases : He.DefD := dD "_law_are_bases" s__law_are_bases
def d__law_are_states : He.DefD := dD "_law_are_states" s__law_are_states
def d__law_are_halves : He.DefD := dD "_law_are_halves" s__law_are_halves
def d__law_are_errors : He.DefD := dD "_law_are_errors" s__law_are_errors
def d_law : He.DefD := dD "law" s_law
def fn : List He.DefD := ([d_is_number, d_is_within, d_are_numbers, d_is_way, d_line_lot_error, d_lots_error, d_often_gone, d_is_way_sum, d_is_in_lot, d_is_in_lots, d_grid_points, d_lot_states, d_is_below, d_least_often, d_gone_on, d_let_bases, d_first_apart_state, d__law_own_bag, d__law_draw, d__law_told, d__law_same, d__law_is, d__law_way, d__law_lot, d__law_times, d__law_is_sum, d__law_is_in, d__law_total, d__law_are_sums, d__law_are_bases] : List He.DefD) ++ ([d__law_are_states, d__law_are_halves, d__law_are_errors, d_law] : List He.DefD)
def fa : List He.Fa := ([.glo "is_number", .glo "is_within", .glo "are_numbers", .glo "is_way", .glo "line_lot_error", .glo "lots_error", .glo "often_gone", .glo "is_way_sum", .glo "is_in_lot", .glo "is_in_lots", .glo "grid_points", .glo "lot_states", .glo "is_below", .glo "least_often", .glo "gone_on", .glo "let_bases", .glo "first_apart_state", .glo "_law_own_bag", .glo "_law_draw", .glo "_law_told"] : List He.Fa) ++ ([.glo "_law_same", .glo "_law_is", .glo "_law_way", .glo "_law_lot", .glo "_law_times", .glo "_law_is_sum", .glo "_law_is_in", .glo "_law_total", .glo "_law_are_sums", .glo "_law_are_bases", .glo "_law_are_states", .glo "_law_are_halves", .glo "_law_are_errors", .glo "law", .glo "StepError", .glo "Unfit", .glo "TooMany", .int "MAX_WEIGHT" 9, .int "MAX_LINES" 20, .int "MAX_LINE" 60] : List He.Fa) ++ ([.int "MAX_BASE" 1000, .free "ValueError", .free "abs", .free "all", .free "any", .free "bool", .free "enumerate", .free "int", .free "isinstance", .free "len", .free "list", .free "max", .free "min", .free "range", .free "repr", .free "reversed", .free "set", .free "sorted", .free "super", .free "tuple"] : List He.Fa) ++ ([.free "zip"] : List He.Fa)
def tf : List He.Defn := ([("_law_are_sums", none), ("_law_are_bases", none), ("_law_are_states", none), ("_law_are_halves", none), ("_law_are_errors", none)] : List He.Defn)
def loose : List Str := (["MAX_WEIGHT", "MAX_LINES", "MAX_LINE", "MAX_BASE", "StepError", "Unfit", "TooMany", "is_number", "is_within", "are_numbers", "is_way", "line_lot_error", "lots_error", "often_gone", "is_way_sum", "is_in_lot", "is_in_lots", "grid_points", "lot_states", "is_below", "least_often", "gone_on", "let_bases", "first_apart_state", "_law_own_bag", "_law_draw", "_law_told", "_law_same", "_law_is", "_law_way"] : List Str) ++ (["_law_lot", "_law_times", "_law_is_sum", "_law_is_in", "_law_total", "_law_are_sums", "_law_are_bases", "_law_are_states", "_law_are_halves", "_law_are_errors"] : List Str)
abbrev R : PySem.W.OpenRow := PySem.W.OpenLaw.row PySem.Challenge.rw_tokensteps_k39_whole_line_lots_by_own
def apart : List Addr → Bool
  | [] => true
  | a :: r => (r.all fun b => !(Nat.beq a b)) && apart r
def exT (K : PySem.W.Frag) : Bool := apart (tf.map fun p => (He.cT K p).2)
abbrev hk : PySem.W.Hook := He.hookX 5 fa fn [] tf exT
def ob (s : PySem.W.SharedT) : He.AlX := He.obsX 5 fa fn [] tf exT (HandSHeadRun.getT s)
theorem ob_eq (s : PySem.W.SharedT) : ob s = hk.obs s.abs := He.obsX_eq (HandSHeadRun.getT_eq s)
set_option Elab.async false
theorem run (w : World) : HandSHeadRun.RunEq R (PySem.W.view R.prog [47]) hk ob 4000 loose w := by
  intro os
  kernel_rfl
end K39
set_option Elab.async false
set_option linter.all false
set_option maxRecDepth 100000
set_option maxHeartbeats 2000000
/-! Pv: expressions evaluate to data. A world: the frozen part F (data that never changes) of the abstract heap H. -/
namespace Pv
open PySem PySem.Spec PyProof.Rows L2
abbrev PD := PyData

/-! ### worlds -/
structure Wd where
  F : Hp
  H : Hp
  sub : ∀ a o, F a = some o → H a = some o
structure Le (M : Addr → Prop) (W V : Wd) : Prop where
  f : ∀ a o, W.F a = some o → V.F a = some o
  h : ∀ a o, ¬ M a → W.H a = some o → V.H a = some o
  n : ∀ a, W.F a = none → W.H a ≠ none → V.F a = none
  k : ∀ a, W.H a ≠ none → V.H a ≠ none
abbrev M0 : Addr → Prop := fun _ => False
theorem Le.refl {M : Addr → Prop} (W : Wd) : Le M W W := ⟨fun _ _ h => h, fun _ _ _ h => h, fun _ h _ => h, fun _ h => h⟩
theorem Le.trans {M : Addr → Prop} {W V U : Wd} (a : Le M W V) (b : Le M V U) : Le M W U :=
  ⟨fun x o h => b.f x o (a.f x o h), fun x o m h => b.h x o m (a.h x o m h), fun x h k => b.n x (a.n x h k) (a.k x k), fun x h => b.k x (a.k x h)⟩
theorem Le.mono {M N : Addr → Prop} {W V : Wd} (a : Le M W V) (h : ∀ x, M x → N x) : Le N W V := ⟨a.f, fun x o m e => a.h x o (fun z => m (h x z)) e, a.n, a.k⟩
theorem Le.of0 {M : Addr → Prop} {W V : Wd} (a : Le M0 W V) : Le M W V := a.mono fun _ z => z.elim
theorem upd_none {H : Hp} {p : Addr} {o : HO} (h : H p = none) : ∀ a u, H a = some u → upd H p o a = some u := fun a u e => by
  rw [upd_ne (ne_of_none e h)]
  exact e
/-- a new object, frozen at once -/
def Wd.frz (W : Wd) (p : Addr) (o : HO) (h : W.H p = none) : Wd := ⟨upd W.F p o, upd W.H p o, fun a u e => by
  by_cases q : a = p
  · subst q
    rw [upd_same] at e ⊢
    exact e
  · rw [upd_ne q] at e ⊢
    exact W.sub a u e⟩
/-- a new object, not frozen -/
def Wd.own (W : Wd) (p : Addr) (o : HO) (h : W.H p = none) : Wd := ⟨W.F, upd W.H p o, fun a u e => upd_none h a u (W.sub a u e)⟩
/-- an object changed that is not frozen -/
def Wd.put (W : Wd) (p : Addr) (o : HO) (h : W.F p = none) : Wd := ⟨W.F, upd W.H p o, fun a u e => by
  rw [upd_ne (ne_of_none e h)]
  exact W.sub a u e⟩
/-- an object frozen as it stands -/
def Wd.ice (W : Wd) (p : Addr) (o : HO) (h : W.H p = some o) : Wd := ⟨upd W.F p o, W.H, fun a u e => by
  by_cases q : a = p
  · subst q
    rw [upd_same] at e
    rw [h]
    exact e
  · rw [upd_ne q] at e
    exact W.sub a u e⟩
theorem Wd.fnone (W : Wd) {p : Addr} (h : W.H p = none) : W.F p = none := by
  cases e : W.F p with
  | none => rfl
  | some o =>
    have := W.sub p o e
    rw [h] at this
    cases this
theorem upd_some_ne {H : Hp} {p a : Addr} {o : HO} (h : H a ≠ none) : upd H p o a ≠ none := by
  by_cases q : a = p
  · subst q
    rw [upd_same]
    exact fun z => nomatch z
  · rw [upd_ne q]
    exact h
theorem Le.frz {M : Addr → Prop} {W : Wd} {p : Addr} {o : HO} (h : W.H p = none) : Le M W (W.frz p o h) :=
  ⟨upd_none (W.fnone h), fun a u _ e => upd_none h a u e, fun a e k => by
    have q : a ≠ p := fun z => k (z ▸ h)
    show upd W.F p o a = none
    rw [upd_ne q]
    exact e, fun a k => upd_some_ne k⟩
theorem Le.own {M : Addr → Prop} {W : Wd} {p : Addr} {o : HO} (h : W.H p = none) : Le M W (W.own p o h) :=
  ⟨fun _ _ e => e, fun a u _ e => upd_none h a u e, fun a e _ => e, fun a k => upd_some_ne k⟩
theorem Le.put {M : Addr → Prop} {W : Wd} {p : Addr} {o : HO} (h : W.F p = none) (hm : M p) : Le M W (W.put p o h) :=
  ⟨fun _ _ e => e, fun a u m e => by
    have q : a ≠ p := fun z => m (z ▸ hm)
    show upd W.H p o a = some u
    rw [upd_ne q]
    exact e, fun a e _ => e, fun a k => upd_some_ne k⟩
/-- frozen: for what was not known ahead -/
theorem Le.ice {M : Addr → Prop} {U W : Wd} {p : Addr} {o : HO} (a : Le M U W) (hu : U.H p = none) (h : W.H p = some o) (hf : W.F p = none) : Le M U (W.ice p o h) :=
  ⟨fun x u e => by
    show upd W.F p o x = some u
    rw [upd_ne (ne_of_none (U.sub x u e) hu)]
    exact a.f x u e, a.h, fun x e k => by
    have q : x ≠ p := fun z => k (z ▸ hu)
    show upd W.F p o x = none
    rw [upd_ne q]
    exact a.n x e k, a.k⟩

end Pv
namespace L2
open PySem PySem.Spec PyProof.Rows
/-! ### data in a frozen heap -/
mutual
theorem Dp.mono {K : PySem.W.Frag} {F G : Hp} (h : ∀ a o, F a = some o → G a = some o) : ∀ {v : V} {d : PyData}, Dp K F v d → Dp K G v d
  | _, _, .non => .non
  | _, _, .bl b => .bl b
  | _, _, .int i => .int i
  | _, _, .str x => .str x
  | _, _, .lst hs ha => .lst (Evl.ex_l h hs) (DpAll.mono h ha)
  | _, _, .tup hs ha => .tup (Evl.ex_t h hs) (DpAll.mono h ha)
theorem DpAll.mono {K : PySem.W.Frag} {F G : Hp} (h : ∀ a o, F a = some o → G a = some o) : ∀ {vs : List V} {ds : List PyData}, DpAll K F vs ds → DpAll K G vs ds
  | _, _, .nil => .nil
  | _, _, .cons a b => .cons (Dp.mono h a) (DpAll.mono h b)
end
theorem DpAll.len {K : PySem.W.Frag} {F : Hp} : ∀ {vs : List V} {ds : List PyData}, DpAll K F vs ds → vs.length = ds.length
  | _, _, .nil => rfl
  | _, _, .cons _ b => congrArg (· + 1) (DpAll.len b)
theorem DpAll.get {K : PySem.W.Frag} {F : Hp} : ∀ {vs : List V} {ds : List PyData} {i : Nat} {v : V}, DpAll K F vs ds → vs[i]? = some v → ∃ d, ds[i]? = some d ∧ Dp K F v d
  | _, _, _, _, .nil, e => by simp at e
  | _, _, 0, _, .cons a _, e => by
    simp at e
    subst e
    exact ⟨_, rfl, a⟩
  | _, _, i + 1, v, .cons _ b, e => by
    obtain ⟨d, h1, h2⟩ := DpAll.get (i := i) (v := v) b (by simpa using e)
    exact ⟨d, by simpa using h1, h2⟩
theorem DpAll.get' {K : PySem.W.Frag} {F : Hp} : ∀ {vs : List V} {ds : List PyData} {i : Nat} {d : PyData}, DpAll K F vs ds → ds[i]? = some d → ∃ v, vs[i]? = some v ∧ Dp K F v d
  | _, _, _, _, .nil, e => by simp at e
  | _, _, 0, _, .cons a _, e => by
    simp at e
    subst e
    exact ⟨_, rfl, a⟩
  | _, _, i + 1, d, .cons _ b, e => by
    obtain ⟨v, h1, h2⟩ := DpAll.get' (i := i) (d := d) b (by simpa using e)
    exact ⟨v, by simpa using h1, h2⟩
theorem DpAll.app {K : PySem.W.Frag} {F : Hp} : ∀ {vs us : List V} {ds es : List PyData}, DpAll K F vs ds → DpAll K F us es → DpAll K F (vs ++ us) (ds ++ es)
  | _, _, _, _, .nil, h => h
  | _, _, _, _, .cons a b, h => .cons a (DpAll.app b h)
theorem DpAll.one {K : PySem.W.Frag} {F : Hp} {v : V} {d : PyData} (h : Dp K F v d) : DpAll K F [v] [d] := .cons h .nil
theorem DpAll.take {K : PySem.W.Frag} {F : Hp} : ∀ {vs : List V} {ds : List PyData} (n : Nat), DpAll K F vs ds → DpAll K F (vs.take n) (ds.take n)
  | _, _, 0, _ => by simpa using DpAll.nil
  | _, _, _ + 1, .nil => .nil
  | _, _, n + 1, .cons a b => .cons a (DpAll.take n b)
theorem DpAll.drop {K : PySem.W.Frag} {F : Hp} : ∀ {vs : List V} {ds : List PyData} (n : Nat), DpAll K F vs ds → DpAll K F (vs.drop n) (ds.drop n)
  | _, _, 0, h => h
  | _, _, _ + 1, .nil => .nil
  | _, _, n + 1, .cons _ b => DpAll.drop n b
theorem DpAll.rev {K : PySem.W.Frag} {F : Hp} : ∀ {vs : List V} {ds : List PyData}, DpAll K F vs ds → DpAll K F vs.reverse ds.reverse
  | _, _, .nil => .nil
  | _, _, .cons a b => by
    rw [List.reverse_cons, List.reverse_cons]
    exact DpAll.app (DpAll.rev b) (DpAll.one a)
theorem DpAll.ints {K : PySem.W.Frag} {F : Hp} : ∀ {vs : List V} {ns : List Int}, DpAll K F vs (ns.map PyData.int) → vs = ns.map V.int
  | _, [], .nil => rfl
  | _, n :: ns, .cons (.int _) b => by rw [DpAll.ints b, List.map_cons]
theorem DpAll.bls {K : PySem.W.Frag} {F : Hp} : ∀ {vs : List V} {ns : List Bool}, DpAll K F vs (ns.map PyData.bool) → vs = ns.map V.bl
  | _, [], .nil => rfl
  | _, n :: ns, .cons (.bl _) b => by rw [DpAll.bls b, List.map_cons]
end L2
namespace Pv
open PySem PySem.Spec PyProof.Rows L2
theorem dpInts {K : PySem.W.Frag} {F : Hp} : ∀ (ns : List Int), DpAll K F (ns.map V.int) (ns.map PyData.int)
  | [] => .nil
  | n :: ns => .cons (.int n) (dpInts ns)

/-- what a value stands for: data; a dict with int and text keys whose values are data -/
inductive Sv where
  | d (x : PD)
  | dk (kvs : List (Key × PD))
  /-- a tuple that tuple() made: its object is known to have no dict -/
  | pt (ds : List PD)
abbrev KVD (K : PySem.W.Frag) (F : Hp) : List (Key × V) → List (Key × PD) → Prop := Paired fun p q => p.1 = q.1 ∧ Dp K F p.2 q.2
def Is (K : PySem.W.Frag) (F : Hp) (v : V) : Sv → Prop
  | .d x => Dp K F v x
  | .dk kvs => ∃ a vs, v = .ref a ∧ F a = some (.dK vs) ∧ KVD K F vs kvs
  | .pt ds => ∃ a ob vs, v = .ref a ∧ F a = some (.frz ob (.tup vs)) ∧ ob.cls = .type "tuple" ∧ ob.dict = none ∧ DpAll K F vs ds
theorem KVD.mono {K : PySem.W.Frag} {F G : Hp} (h : ∀ a o, F a = some o → G a = some o) {vs : List (Key × V)} {kvs : List (Key × PD)} (r : KVD K F vs kvs) : KVD K G vs kvs :=
  Paired.mapP r fun _ _ z => ⟨z.1, Dp.mono h z.2⟩
theorem Is.mono {K : PySem.W.Frag} {F G : Hp} (h : ∀ a o, F a = some o → G a = some o) {v : V} : ∀ {x : Sv}, Is K F v x → Is K G v x
  | .d _, q => Dp.mono h q
  | .dk _, ⟨a, vs, e, f, r⟩ => ⟨a, vs, e, h _ _ f, r.mono h⟩
  | .pt _, ⟨a, ob, vs, e, f, c, n, r⟩ => ⟨a, ob, vs, e, h _ _ f, c, n, r.mono h⟩
theorem Is.pt {K : PySem.W.Frag} {F : Hp} {v : V} {ds : List PD} (q : Is K F v (.pt ds)) : Is K F v (.d (.tuple ds)) := by
  obtain ⟨a, ob, vs, e, f, _, _, r⟩ := q
  subst e
  exact Dp.tup (.inl (.inr ⟨ob, f⟩)) r
theorem Is.le {K : PySem.W.Frag} {M : Addr → Prop} {W V' : Wd} (h : Le M W V') {v : V} {x : Sv} (q : Is K W.F v x) : Is K V'.F v x := q.mono h.f
theorem Is.int {K : PySem.W.Frag} {F : Hp} {v : V} {i : Int} (q : Is K F v (.d (.int i))) : v = .int i := by
  cases q
  rfl
theorem Is.bl {K : PySem.W.Frag} {F : Hp} {v : V} {i : Bool} (q : Is K F v (.d (.bool i))) : v = .bl i := by
  cases q
  rfl
theorem Is.str {K : PySem.W.Frag} {F : Hp} {v : V} {i : Str} (q : Is K F v (.d (.str i))) : v = .str i := by
  cases q
  rfl
theorem Is.non {K : PySem.W.Frag} {F : Hp} {v : V} (q : Is K F v (.d .none)) : v = .non := by
  cases q
  rfl
theorem Is.tup {K : PySem.W.Frag} {F : Hp} {v : V} {ds : List PD} (q : Is K F v (.d (.tuple ds))) : ∃ a vs, v = .ref a ∧ SqT K F a vs ∧ DpAll K F vs ds := by
  cases q with
  | tup h1 h2 => exact ⟨_, _, rfl, h1, h2⟩
theorem Is.lst {K : PySem.W.Frag} {F : Hp} {v : V} {ds : List PD} (q : Is K F v (.d (.list ds))) : ∃ a vs, v = .ref a ∧ SqL K F a vs ∧ DpAll K F vs ds := by
  cases q with
  | lst h1 h2 => exact ⟨_, _, rfl, h1, h2⟩
theorem sqT_sub {K : PySem.W.Frag} (W : Wd) {a : Addr} {vs : List V} (h : SqT K W.F a vs) : SqT K W.H a vs := Evl.ex_t W.sub h
theorem sqL_sub {K : PySem.W.Frag} (W : Wd) {a : Addr} {vs : List V} (h : SqL K W.F a vs) : SqL K W.H a vs := Evl.ex_l W.sub h
theorem dp_sub {K : PySem.W.Frag} (W : Wd) {v : V} {d : PD} (h : Dp K W.F v d) : Dp K W.H v d := Dp.mono W.sub h

/-! ### modes: a resource beside the data -/
/-- what a def may own and change: lists, dicts -/
def isOwn : HO → Bool
  | .lst _ => true
  | .dK _ => true
  | .dT _ => true
  | _ => false
structure Mode where
  ι : Type
  M : Addr → Prop
  R : ι → Wd → Prop
  st : ∀ i W V, R i W → (∀ a o, W.H a = some o → V.H a = some o) → (∀ a, M a → V.F a = none) → R i V
  al : ∀ i W, R i W → ∀ a, M a → W.H a ≠ none ∧ W.F a = none
  pt : ∀ i W l o u (h : W.F l = none), R i W → ¬ M l → W.H l = some o → isOwn o = true → R i (W.put l u h)
/-- nothing beside -/
def m0 : Mode := ⟨Unit, M0, fun _ _ => True, fun _ _ _ _ _ _ => True.intro, fun _ _ _ _ z => z.elim, fun _ _ _ _ _ _ _ _ _ _ => True.intro⟩
theorem Mode.le0 (m : Mode) {i : m.ι} {W V : Wd} (r : m.R i W) (h : Le M0 W V) : m.R i V := m.st i W V r (fun a o e => h.h a o (fun z => z) e) fun a z => h.n a (m.al i W r a z).2 (m.al i W r a z).1

/-! ### families of contexts -/
structure RoomG (k : Nat) (A : Around) : Prop where
  r : Room k A
  g : A.guards = some []
theorem RoomG.mono {j k : Nat} {A : Around} (r : RoomG k A) (h : j ≤ k) : RoomG j A := ⟨r.r.mono h, r.g⟩
theorem RoomG.deeper {k : Nat} {A : Around} (r : RoomG (k + 1) A) (env : Env) : RoomG k (A.deeper env) := ⟨r.r.deeper env, r.g⟩
structure Fam where
  α : Type
  X : α → Cx
  P : Program
  w : World
  K : PySem.W.Frag
  mg : Str → Option Value
  base : Heap
  N : List Str
  sc : Scope
  k : Nat
  hP : ∀ a, (X a).prog = P
  hw : ∀ a, (X a).w = w
  hK : ∀ a, (X a).K = K
  hmg : ∀ a, (X a).mg = mg
  hbase : ∀ a, (X a).base = base
  hN : ∀ a, (X a).N = N
  hsc : ∀ a, (X a).env.scope = sc
  hc : ∀ a, (X a).calm = true
  hr : ∀ a, RoomG k (X a).A
  nd : N.Nodup
def wE (Y : Fam) (e : Expr) : TE := fun σ H Q => ∃ t : TE, (∀ a, PE (Y.X a) e t) ∧ t σ H Q
theorem wE_ok {Y : Fam} {e : Expr} (a : Y.α) : PE (Y.X a) e (wE Y e) := ⟨fun pins s σ H Q I ⟨_, h, q⟩ => (h a).run pins s σ H Q I q⟩
def wT (Y : Fam) (e : Expr) : TT := fun σ H Q => ∃ t : TT, (∀ a, PT (Y.X a) e t) ∧ t σ H Q
theorem wT_ok {Y : Fam} {e : Expr} (a : Y.α) : PT (Y.X a) e (wT Y e) := ⟨fun pins s σ H Q I ⟨_, h, q⟩ => (h a).run pins s σ H Q I q⟩
def wW (Y : Fam) (e : Expr) : TT := fun σ H Q => ∃ t : TT, (∀ a, PW (Y.X a) e t) ∧ t σ H Q
theorem wW_ok {Y : Fam} {e : Expr} (a : Y.α) : PW (Y.X a) e (wW Y e) := ⟨fun wh pins s σ H Q I ⟨_, h, q⟩ => (h a).run wh pins s σ H Q I q⟩
def wA (Y : Fam) (es : List Expr) : TA := fun σ H Q => ∃ t : TA, (∀ a, PA (Y.X a) es t) ∧ t σ H Q
theorem wA_ok {Y : Fam} {es : List Expr} (a : Y.α) : PA (Y.X a) es (wA Y es) := ⟨fun pos pins s σ H Q I ⟨_, h, q⟩ => (h a).run pos pins s σ H Q I q⟩
def wI (Y : Fam) (tg it : Expr) : TI := fun σ H R => ∃ t : TI, (∀ a, PI (Y.X a) tg it t) ∧ t σ H R
theorem wI_ok {Y : Fam} {tg it : Expr} (a : Y.α) : PI (Y.X a) tg it (wI Y tg it) := ⟨fun pins s σ H R I ⟨_, h, q⟩ => (h a).run pins s σ H R I q⟩
def wG (Y : Fam) (tg : Expr) : TG := fun v σ H Q => ∃ t : TG, (∀ a, PG (Y.X a) tg t) ∧ t v σ H Q
theorem wG_ok {Y : Fam} {tg : Expr} (a : Y.α) : PG (Y.X a) tg (wG Y tg) := ⟨fun pins s σ H v u Q I r ⟨_, h, q⟩ => (h a).run pins s σ H v u Q I r q⟩
def wSs (Y : Fam) (ss : List Stmt) : TS := fun D σ H => ∃ t : TS, (∀ a, PSs (Y.X a) ss t) ∧ t D σ H
theorem wSs_ok {Y : Fam} {ss : List Stmt} (a : Y.α) : PSs (Y.X a) ss (wSs Y ss) := ⟨fun pins s σ H D I ⟨_, h, q⟩ => (h a).run pins s σ H D I q⟩
def wO (Y : Fam) (e : Option Expr) : TO := fun σ H Q => ∃ t : TO, (∀ a, PO (Y.X a) e t) ∧ t σ H Q
def wTs (Y : Fam) (es : List Expr) : TT := fun σ H Q => ∃ t : TT, (∀ a, PTs (Y.X a) es t) ∧ t σ H Q
theorem wTs_ok {Y : Fam} {es : List Expr} (a : Y.α) : PTs (Y.X a) es (wTs Y es) := ⟨fun pins s σ H Q I ⟨_, h, q⟩ => (h a).run pins s σ H Q I q⟩

/-! ### judgements -/
section
variable (m : Mode) (Y : Fam) (σ : L2.St) (W : Wd)
/-- an expression, by a word on the value -/
def EG (i : m.ι) (e : Expr) (P : Wd → V → Wd → Prop) (j : m.ι) : Prop :=
  ∀ U, Le m.M W U → m.R i U → ∀ Q : VK, (∀ v T, Le m.M U T → m.R j T → P U v T → Q v T.H) → wE Y e σ U.H Q
/-- .. it stands for x -/
def E (i : m.ι) (e : Expr) (x : Sv) (j : m.ι) : Prop := EG m Y σ W i e (fun _ v T => Is Y.K T.F v x) j
/-- .. a new list, not frozen yet -/
def EL (i : m.ι) (e : Expr) (ds : List PD) (j : m.ι) : Prop :=
  EG m Y σ W i e (fun U v T => ∃ p vs, v = .ref p ∧ U.H p = none ∧ T.F p = none ∧ T.H p = some (.lst vs) ∧ DpAll Y.K T.F vs ds) j
/-- .. a new dict -/
def ED (i : m.ι) (e : Expr) (kvs : List (Key × PD)) (j : m.ι) : Prop :=
  EG m Y σ W i e (fun U v T => ∃ p vs, v = .ref p ∧ U.H p = none ∧ T.F p = none ∧ T.H p = some (.dK vs) ∧ KVD Y.K T.F vs kvs) j
/-- a test -/
def ET (i : m.ι) (e : Expr) (b : Bool) (j : m.ι) : Prop :=
  ∀ U, Le m.M W U → m.R i U → ∀ Q : Bool → Hp → Prop, (∀ T, Le m.M U T → m.R j T → Q b T.H) → wT Y e σ U.H Q
def EW (i : m.ι) (e : Expr) (b : Bool) (j : m.ι) : Prop :=
  ∀ U, Le m.M W U → m.R i U → ∀ Q : Bool → Hp → Prop, (∀ T, Le m.M U T → m.R j T → Q b T.H) → wW Y e σ U.H Q
inductive AllIs (K : PySem.W.Frag) (F : Hp) : List V → List Sv → Prop
  | nil : AllIs K F [] []
  | cons {v : V} {vs : List V} {x : Sv} {xs : List Sv} : Is K F v x → AllIs K F vs xs → AllIs K F (v :: vs) (x :: xs)
/-- arguments -/
def EA (i : m.ι) (es : List Expr) (xs : List Sv) (j : m.ι) : Prop :=
  ∀ U, Le m.M W U → m.R i U → ∀ Q : List V → Hp → Prop, (∀ vs T, Le m.M U T → m.R j T → AllIs Y.K T.F vs xs → Q vs T.H) → wA Y es σ U.H Q
end
theorem AllIs.mono {K : PySem.W.Frag} {F G : Hp} (h : ∀ a o, F a = some o → G a = some o) : ∀ {vs : List V} {xs : List Sv}, AllIs K F vs xs → AllIs K G vs xs
  | _, _, .nil => .nil
  | _, _, .cons a b => .cons (a.mono h) (AllIs.mono h b)
theorem AllIs.ds {K : PySem.W.Frag} {F : Hp} : ∀ {vs : List V} {ds : List PD}, AllIs K F vs (ds.map Sv.d) → DpAll K F vs ds
  | _, [], .nil => .nil
  | _, _ :: _, .cons a b => .cons a (AllIs.ds b)
theorem AllIs.len {K : PySem.W.Frag} {F : Hp} : ∀ {vs : List V} {xs : List Sv}, AllIs K F vs xs → vs.length = xs.length
  | _, _, .nil => rfl
  | _, _, .cons _ b => congrArg (· + 1) (AllIs.len b)

section
variable {m : Mode} {Y : Fam} {σ : L2.St} {W W' : Wd} {i j k : m.ι} {e a b c : Expr} {pos : Pos} {x y z : Sv}
theorem EG.le {P : Wd → V → Wd → Prop} (h : Le m.M W W') (q : EG m Y σ W i e P j) : EG m Y σ W' i e P j := fun U h1 => q U (h.trans h1)
theorem E.le (h : Le m.M W W') (q : E m Y σ W i e x j) : E m Y σ W' i e x j := EG.le h q
theorem EG.imp {P Q : Wd → V → Wd → Prop} (q : EG m Y σ W i e P j) (h : ∀ U v T, Le m.M W U → m.R i U → Le m.M U T → m.R j T → P U v T → Q U v T) : EG m Y σ W i e Q j :=
  fun U h1 r Q' k => q U h1 r Q' fun v T h2 r2 p => k v T h2 r2 (h U v T h1 r h2 r2 p)
theorem Mode.nm (m : Mode) {i : m.ι} {U : Wd} {p : Addr} (r : m.R i U) (h : U.H p = none) : ¬ m.M p := fun z => (m.al i U r p z).1 h
theorem E.is (q : E m Y σ W i e x j) (h : x = y) : E m Y σ W i e y j := h ▸ q
/-- the new list is frozen -/
theorem EL.E {ds : List PD} (q : EL m Y σ W i e ds j) : E m Y σ W i e (.d (.list ds)) j := fun U h1 r Q k =>
  q U h1 r Q fun v T h2 r2 ⟨p, vs, e1, e2, e3, e4, e5⟩ => by
    have up : ∀ a o, T.F a = some o → upd T.F p (.lst vs) a = some o := upd_none e3
    refine k v (T.ice p _ e4) (h2.ice e2 e4 e3) (m.st j T _ r2 (fun _ _ z => z) fun a z => ?_) ?_
    · have q : a ≠ p := fun w => (m.al i U r a z).1 (w ▸ e2)
      show upd T.F p _ a = none
      rw [upd_ne q]
      exact (m.al j T r2 a z).2
    · subst e1
      exact Dp.lst (SqL.of upd_same) (e5.mono up)
theorem ED.E {kvs : List (Key × PD)} (q : ED m Y σ W i e kvs j) : E m Y σ W i e (.dk kvs) j := fun U h1 r Q k =>
  q U h1 r Q fun v T h2 r2 ⟨p, vs, e1, e2, e3, e4, e5⟩ => by
    have up : ∀ a o, T.F a = some o → upd T.F p (.dK vs) a = some o := upd_none e3
    refine k v (T.ice p _ e4) (h2.ice e2 e4 e3) (m.st j T _ r2 (fun _ _ z => z) fun a z => ?_) ?_
    · have q : a ≠ p := fun w => (m.al i U r a z).1 (w ▸ e2)
      show upd T.F p _ a = none
      rw [upd_ne q]
      exact (m.al j T r2 a z).2
    · exact ⟨p, vs, e1, upd_same, e5.mono up⟩

/-! ### comparisons: as values, as tests -/
def EC (m : Mode) (Y : Fam) (σ : L2.St) (W : Wd) (i : m.ι) (e : Expr) (u : Bool) (j : m.ι) : Prop :=
  ∀ U, Le m.M W U → m.R i U → ∀ Q : VK, (∀ v T, Le m.M U T → m.R j T → Is Y.K T.F v (.d (.bool u)) → Q v T.H) → ∃ t : TE, (∀ a, PE (Y.X a) e t ∧ PT (Y.X a) e (tTest t)) ∧ t σ U.H Q
theorem EC.val {u : Bool} (h : EC m Y σ W i e u j) : E m Y σ W i e (.d (.bool u)) j := fun U h1 r Q k => by
  obtain ⟨t, q1, q2⟩ := h U h1 r Q k
  exact ⟨t, fun a => (q1 a).1, q2⟩
theorem EC.tst {u : Bool} (h : EC m Y σ W i e u j) : ET m Y σ W i e u j := fun U h1 r Q k => by
  obtain ⟨t, q1, q2⟩ := h U h1 r (fun x H' => ∃ b, x = .bl b ∧ Q b H') fun v T l r2 p => ⟨u, p.bl, k T l r2⟩
  exact ⟨tTest t, fun a => (q1 a).2, q2⟩
theorem EC.eq {u v : Bool} (h : EC m Y σ W i e u j) (q : u = v) : EC m Y σ W i e v j := q ▸ h
theorem cmpR {X : Cx} {a b : Expr} {ta tb : TE} {pos : Pos} {op : CmpOp} {r : R2} (ho : OpR X (compareOp op) r) (ha : PE X a ta) (hb : PE X b tb) (hm : behindInMarks op b = false) : PE X (.Compare a [op] [b] pos) (tOp r ta tb) ∧ PT X (.Compare a [op] [b] pos) (tTest (tOp r ta tb)) := ⟨pe_cmpR ho ha hb hm, pt_cmpR ho ha hb hm⟩
theorem cmpC {X : Cx} {a b : Expr} {pos : Pos} {op : CmpOp} {t : TE} (h : PC X op a b t) (h1 : behindInMarks op b = false := by first | exact nobehind _ (by decide) (by decide) | rfl) : PE X (.Compare a [op] [b] pos) t ∧ PT X (.Compare a [op] [b] pos) (tTest t) := ⟨pe_cmp h h1, pt_cmp h h1⟩
theorem cmpH {X : Cx} {a b c : Expr} {ta tb tc : TE} {pos : Pos} {op op' : CmpOp} {r r' : R2} (ho : OpR X (compareOp op) r) (ho' : OpR X (compareOp op') r') (ha : PE X a ta) (hb : PE X b tb) (hc : PE X c tc) (hm : lastMarks [op, op'] [b, c] = false) :
    PE X (.Compare a [op, op'] [b, c] pos) (tChain r r' ta tb tc) ∧ PT X (.Compare a [op, op'] [b, c] pos) (tTest (tChain r r' ta tb tc)) := ⟨pe_chain ho ho' ha hb hc hm, pt_chain ho ho' ha hb hc hm⟩
/-! ### names, constants -/
theorem e_var {n : Nat} {s : Str} {v : V} (hN : Y.N[n]? = some s) (hv : Vis Y.sc s) (hs : σ[n]? = some (some v)) (h : Is Y.K W.F v x) (hd : (s == ("__debug__" : Str)) = false := by decide) (hcd : (s == ("__classdict__" : Str)) = false := by decide) :
    E m Y σ W i (.Name s pos) x i := fun U h1 r Q k => ⟨tVar n, fun a => pe_var (by rw [Y.hN]; exact hN) (by rw [Y.hsc]; exact hv) hd hcd, v, hs, k v U (Le.refl U) r (h.le h1)⟩
theorem e_int {n : Int} {l : Nat} : E m Y σ W i (.Constant (.int n) l pos) (.d (.int n)) i := fun U _ r Q k => ⟨tC (.int n), fun _ => pe_int, k _ U (Le.refl U) r (Dp.int n)⟩
theorem e_bl {n : Bool} {l : Nat} : E m Y σ W i (.Constant (.bool n) l pos) (.d (.bool n)) i := fun U _ r Q k => ⟨tC (.bl n), fun _ => pe_bl, k _ U (Le.refl U) r (Dp.bl n)⟩
theorem e_non {l : Nat} : E m Y σ W i (.Constant .none l pos) (.d .none) i := fun U _ r Q k => ⟨tC .non, fun _ => pe_non, k _ U (Le.refl U) r Dp.non⟩
theorem e_str {n : Str} {l : Nat} : E m Y σ W i (.Constant (.str n) l pos) (.d (.str n)) i := fun U _ r Q k => ⟨tC (.str n), fun _ => pe_str, k _ U (Le.refl U) r (Dp.str n)⟩
def Gb (Y : Fam) (s : Str) : Prop := Y.sc.names.lookup s = some .globalImplicit
theorem Gb.gl {s : Str} (h : Gb Y s) (a : Y.α) : Gl (Y.X a) s := by
  show (Y.X a).env.scope.names.lookup s = some .globalImplicit
  rw [Y.hsc]
  exact h
theorem e_gint {s : Str} {n : Int} (hg : Gb Y s) (hm : ∃ t, Y.mg s = some (.int n t)) (hd : (s == ("__debug__" : Str)) = false := by decide) : E m Y σ W i (.Name s pos) (.d (.int n)) i := fun U _ r Q k => by
  obtain ⟨t, hm⟩ := hm
  exact ⟨tC (.int n), fun a => pe_glob (hg.gl a) (by rw [Y.hmg]; exact hm) ⟨t, rfl⟩ hd, k _ U (Le.refl U) r (Dp.int n)⟩

/-! ### ints -/
theorem e_int2 {op : Operator} {C : Int → Int → Prop} {g : Int → Int → Int} {u v : Int} (ho : ∀ X : Cx, OpR X (binaryOp op) (rI C fun i j => .int (g i j))) (ha : E m Y σ W i a (.d (.int u)) j) (hb : E m Y σ W j b (.d (.int v)) k) (hc : C u v) :
    E m Y σ W i (.BinOp a op b pos) (.d (.int (g u v))) k := fun U h1 r Q q =>
  ⟨_, fun a => pe_op (ho _) (wE_ok a) (wE_ok a), ha U h1 r _ fun v1 T1 l1 r1 p1 => hb T1 (h1.trans l1) r1 _ fun v2 T2 l2 r2 p2 =>
    ⟨u, v, p1.int, p2.int, hc, q _ T2 (l1.trans l2) r2 (Dp.int _)⟩⟩
theorem e_int20 {op : Operator} {g : Int → Int → Int} {u v : Int} (ho : ∀ X : Cx, OpR X (binaryOp op) (rI0 fun i j => .int (g i j))) (ha : E m Y σ W i a (.d (.int u)) j) (hb : E m Y σ W j b (.d (.int v)) k) :
    E m Y σ W i (.BinOp a op b pos) (.d (.int (g u v))) k := fun U h1 r Q q =>
  ⟨_, fun a => pe_op (ho _) (wE_ok a) (wE_ok a), ha U h1 r _ fun v1 T1 l1 r1 p1 => hb T1 (h1.trans l1) r1 _ fun v2 T2 l2 r2 p2 =>
    ⟨u, v, p1.int, p2.int, q _ T2 (l1.trans l2) r2 (Dp.int _)⟩⟩
section
variable {u v : Int}
theorem e_add (ha : E m Y σ W i a (.d (.int u)) j) (hb : E m Y σ W j b (.d (.int v)) k) : E m Y σ W i (.BinOp a .Add b pos) (.d (.int (u + v))) k := e_int20 (fun _ => op_add) ha hb
theorem e_sub (ha : E m Y σ W i a (.d (.int u)) j) (hb : E m Y σ W j b (.d (.int v)) k) : E m Y σ W i (.BinOp a .Sub b pos) (.d (.int (u - v))) k := e_int20 (fun _ => op_sub) ha hb
theorem e_mul (ha : E m Y σ W i a (.d (.int u)) j) (hb : E m Y σ W j b (.d (.int v)) k) (hc : CMul u v) : E m Y σ W i (.BinOp a .Mult b pos) (.d (.int (u * v))) k := e_int2 (fun _ => op_mul) ha hb hc
theorem e_mod (ha : E m Y σ W i a (.d (.int u)) j) (hb : E m Y σ W j b (.d (.int v)) k) (hc : 0 < v) : E m Y σ W i (.BinOp a .Mod b pos) (.d (.int (u % v))) k := e_int2 (fun _ => op_mod) ha hb hc
theorem e_fdiv (ha : E m Y σ W i a (.d (.int u)) j) (hb : E m Y σ W j b (.d (.int v)) k) (hc : CDiv u v) : E m Y σ W i (.BinOp a .FloorDiv b pos) (.d (.int (u / v))) k := e_int2 (fun _ => op_fdiv) ha hb hc
theorem e_pow (ha : E m Y σ W i a (.d (.int u)) j) (hb : E m Y σ W j b (.d (.int v)) k) (hc : CPow u v) : E m Y σ W i (.BinOp a .Pow b pos) (.d (.int (u ^ v.toNat))) k := e_int2 (fun _ => op_pow) ha hb hc
theorem c_cmp2 {op : CmpOp} {g : Int → Int → Bool} (ho : ∀ X : Cx, OpR X (compareOp op) (rI0 fun i j => .bl (g i j))) (hm : behindInMarks op b = false) (ha : E m Y σ W i a (.d (.int u)) j) (hb : E m Y σ W j b (.d (.int v)) k) :
    EC m Y σ W i (.Compare a [op] [b] pos) (g u v) k := fun U h1 r Q q =>
  ⟨_, fun a => cmpR (ho _) (wE_ok a) (wE_ok a) hm, ha U h1 r _ fun v1 T1 l1 r1 p1 => hb T1 (h1.trans l1) r1 _ fun v2 T2 l2 r2 p2 =>
    ⟨u, v, p1.int, p2.int, q _ T2 (l1.trans l2) r2 (Dp.bl _)⟩⟩
theorem c_lt (ha : E m Y σ W i a (.d (.int u)) j) (hb : E m Y σ W j b (.d (.int v)) k) : EC m Y σ W i (.Compare a [.Lt] [b] pos) (decide (u < v)) k := c_cmp2 (fun _ => op_lt) (nomark _) ha hb
theorem c_leq (ha : E m Y σ W i a (.d (.int u)) j) (hb : E m Y σ W j b (.d (.int v)) k) : EC m Y σ W i (.Compare a [.LtE] [b] pos) (decide (u ≤ v)) k := c_cmp2 (fun _ => op_le) (nomark _) ha hb
theorem c_gt (ha : E m Y σ W i a (.d (.int u)) j) (hb : E m Y σ W j b (.d (.int v)) k) : EC m Y σ W i (.Compare a [.Gt] [b] pos) (decide (v < u)) k := c_cmp2 (fun _ => op_gt) (nomark _) ha hb
theorem c_ge (ha : E m Y σ W i a (.d (.int u)) j) (hb : E m Y σ W j b (.d (.int v)) k) : EC m Y σ W i (.Compare a [.GtE] [b] pos) (decide (v ≤ u)) k := c_cmp2 (fun _ => op_ge) (nomark _) ha hb
theorem c_eqi (ha : E m Y σ W i a (.d (.int u)) j) (hb : E m Y σ W j b (.d (.int v)) k) : EC m Y σ W i (.Compare a [.Eq] [b] pos) (decide (u = v)) k := fun U h1 r Q q =>
  ⟨_, fun a => cmpR op_eq (wE_ok a) (wE_ok a) (nomark _), ha U h1 r _ fun v1 T1 l1 r1 p1 => hb T1 (h1.trans l1) r1 _ fun v2 T2 l2 r2 p2 => by
    rw [p1.int, p2.int]
    refine ⟨rfl, ?_⟩
    rw [dec_int, Bool.beq_eq_decide_eq]
    exact q _ T2 (l1.trans l2) r2 (Dp.bl _)⟩
theorem c_nei (ha : E m Y σ W i a (.d (.int u)) j) (hb : E m Y σ W j b (.d (.int v)) k) : EC m Y σ W i (.Compare a [.NotEq] [b] pos) (!decide (u = v)) k := fun U h1 r Q q =>
  ⟨_, fun a => cmpR op_ne (wE_ok a) (wE_ok a) (nomark _), ha U h1 r _ fun v1 T1 l1 r1 p1 => hb T1 (h1.trans l1) r1 _ fun v2 T2 l2 r2 p2 => by
    rw [p1.int, p2.int]
    refine ⟨rfl, ?_⟩
    rw [dec_int, Bool.beq_eq_decide_eq]
    exact q _ T2 (l1.trans l2) r2 (Dp.bl _)⟩
end
end
end Pv
set_option Elab.async false
set_option linter.all false
set_option maxRecDepth 100000
set_option maxHeartbeats 2000000
namespace Pv
open PySem PySem.Spec PyProof.Rows L2
section
variable {m : Mode} {Y : Fam} {σ : L2.St} {W W' : Wd} {i j k l : m.ι} {e a b c : Expr} {es rest : List Expr} {pos p : Pos} {x y z : Sv} {d d' : PD} {ds : List PD} {u v : Bool}
/-! ### tests -/
theorem et_val (h : E m Y σ W i e (.d (.bool u)) j) (he : ∀ a, ∀ whole, isTrue e (Y.X a).env whole = (do let v ← whole; standAt e.pos; holding [v] (truthy v)) := by intro _ _; rfl) : ET m Y σ W i e u j := fun U h1 r Q q =>
  ⟨_, fun a => pt_val (wE_ok a) (he a), h U h1 r _ fun v T l1 r1 p1 => ⟨u, p1.bl, q T l1 r1⟩⟩
theorem et_not (h : ET m Y σ W i e u j) : ET m Y σ W i (.UnaryOp .Not e pos) (!u) j := fun U h1 r Q q =>
  ⟨_, fun a => pt_not (wT_ok a), h U h1 r _ fun T l1 r1 => q T l1 r1⟩
theorem et_w (h : EW m Y σ W i e u j) : ET m Y σ W i e u j := fun U h1 r Q q =>
  ⟨_, fun a => (wW_ok a).pt, h U h1 r _ q⟩
theorem ew_and1 (h : ET m Y σ W i a u j) : EW m Y σ W i (.BoolOp .And [a] pos) u j := fun U h1 r Q q => ⟨_, fun a => pw_and1 (wT_ok a), h U h1 r _ q⟩
theorem ew_or1 (h : ET m Y σ W i a u j) : EW m Y σ W i (.BoolOp .Or [a] pos) u j := fun U h1 r Q q => ⟨_, fun a => pw_or1 (wT_ok a), h U h1 r _ q⟩
theorem ew_and (h : ET m Y σ W i a u j) (h2 : u = true → EW m Y σ W j (.BoolOp .And (b :: rest) pos) v j) : EW m Y σ W i (.BoolOp .And (a :: b :: rest) pos) (u && v) j := fun U h1 r Q q =>
  ⟨_, fun a => pw_and (wT_ok a) (wW_ok a), h U h1 r _ fun T l1 r1 => by
    cases u with
    | false => exact q T l1 r1
    | true => exact h2 rfl T (h1.trans l1) r1 _ fun T2 l2 r2 => q T2 (l1.trans l2) r2⟩
theorem ew_or (h : ET m Y σ W i a u j) (h2 : u = false → EW m Y σ W j (.BoolOp .Or (b :: rest) pos) v j) : EW m Y σ W i (.BoolOp .Or (a :: b :: rest) pos) (u || v) j := fun U h1 r Q q =>
  ⟨_, fun a => pw_or (wT_ok a) (wW_ok a), h U h1 r _ fun T l1 r1 => by
    cases u with
    | true => exact q T l1 r1
    | false => exact h2 rfl T (h1.trans l1) r1 _ fun T2 l2 r2 => q T2 (l1.trans l2) r2⟩
/-! ### and, or, not, if as values (bools) -/
theorem e_one {op : BoolOp} (h : E m Y σ W i a x j) : E m Y σ W i (.BoolOp op [a] pos) x j := fun U h1 r Q q => ⟨_, fun a => pe_one (wE_ok a), h U h1 r _ q⟩
theorem e_and (h : E m Y σ W i a (.d (.bool u)) j) (h2 : u = true → E m Y σ W j (.BoolOp .And (b :: rest) pos) (.d (.bool v)) j) : E m Y σ W i (.BoolOp .And (a :: b :: rest) pos) (.d (.bool (u && v))) j := fun U h1 r Q q =>
  ⟨_, fun a => pe_and (wE_ok a) (wE_ok a), h U h1 r _ fun v1 T l1 r1 p1 => ⟨u, p1.bl, by
    cases u with
    | false => exact q _ T l1 r1 (Dp.bl _)
    | true => exact h2 rfl T (h1.trans l1) r1 _ fun v2 T2 l2 r2 p2 => q v2 T2 (l1.trans l2) r2 p2⟩⟩
theorem e_or (h : E m Y σ W i a (.d (.bool u)) j) (h2 : u = false → E m Y σ W j (.BoolOp .Or (b :: rest) pos) (.d (.bool v)) j) : E m Y σ W i (.BoolOp .Or (a :: b :: rest) pos) (.d (.bool (u || v))) j := fun U h1 r Q q =>
  ⟨_, fun a => pe_or (wE_ok a) (wE_ok a), h U h1 r _ fun v1 T l1 r1 p1 => ⟨u, p1.bl, by
    cases u with
    | true => exact q _ T l1 r1 (Dp.bl _)
    | false => exact h2 rfl T (h1.trans l1) r1 _ fun v2 T2 l2 r2 p2 => q v2 T2 (l1.trans l2) r2 p2⟩⟩
theorem e_not (h : E m Y σ W i a (.d (.bool u)) j) : E m Y σ W i (.UnaryOp .Not a pos) (.d (.bool (!u))) j := fun U h1 r Q q =>
  ⟨_, fun a => pe_not (wE_ok a), h U h1 r _ fun v1 T l1 r1 p1 => ⟨u, p1.bl, q _ T l1 r1 (Dp.bl _)⟩⟩
theorem e_if (h : ET m Y σ W i c u j) (ha : u = true → E m Y σ W j a x j) (hb : u = false → E m Y σ W j b x j) : E m Y σ W i (.IfExp c a b pos) x j := fun U h1 r Q q =>
  ⟨_, fun a => pe_ifExp (wT_ok a) (wE_ok a) (wE_ok a), h U h1 r _ fun T l1 r1 => by
    cases u with
    | true => exact ha rfl T (h1.trans l1) r1 _ fun v2 T2 l2 r2 p2 => q v2 T2 (l1.trans l2) r2 p2
    | false => exact hb rfl T (h1.trans l1) r1 _ fun v2 T2 l2 r2 p2 => q v2 T2 (l1.trans l2) r2 p2⟩
theorem e_un {f : Int → Int} {n : Int} {op : UnaryOp} (ho : ∀ X : Cx, UnR X (unaryOp op) (rU fun i => .int (f i))) (h : E m Y σ W i a (.d (.int n)) j) : E m Y σ W i (.UnaryOp op a pos) (.d (.int (f n))) j := fun U h1 r Q q =>
  ⟨_, fun a => pe_un (ho _) (wE_ok a), h U h1 r _ fun v1 T l1 r1 p1 => ⟨n, p1.int, q _ T l1 r1 (Dp.int _)⟩⟩
theorem e_neg {n : Int} (h : E m Y σ W i a (.d (.int n)) j) : E m Y σ W i (.UnaryOp .USub a pos) (.d (.int (-n))) j := e_un (fun _ => un_neg) h
/-! ### is None, == of data -/
def isNoneD : PD → Bool
  | .none => true
  | _ => false
theorem dp_none {K : PySem.W.Frag} {F : Hp} {v : V} {d : PD} (h : Dp K F v d) : decide (v = .non) = isNoneD d := by
  cases h <;> simp [isNoneD]
theorem c_isN {q : Nat} {p' : Pos} (h : E m Y σ W i a (.d d) j) : EC m Y σ W i (.Compare a [.Is] [.Constant .none q p'] pos) (isNoneD d) j := fun U h1 r Q k =>
  ⟨_, fun a => cmpC (pc_isN (wE_ok a)), h U h1 r _ fun v T l1 r1 p1 => by
    rw [dp_none p1]
    exact k _ T l1 r1 (Dp.bl _)⟩
theorem c_notN {q : Nat} {p' : Pos} (h : E m Y σ W i a (.d d) j) : EC m Y σ W i (.Compare a [.IsNot] [.Constant .none q p'] pos) (!isNoneD d) j := fun U h1 r Q k =>
  ⟨_, fun a => cmpC (pc_notN (wE_ok a)), h U h1 r _ fun v T l1 r1 p1 => by
    rw [dp_none p1]
    exact k _ T l1 r1 (Dp.bl _)⟩
theorem Fam.units (Y : Fam) (a : Y.α) : (Y.X a).A.units + 64 < cLine := (Y.hr a).r.units
theorem c_eqd (ha : E m Y σ W i a (.d d) j) (hb : E m Y σ W j b (.d d') k) (h1 : SeqAt.shaped d = true) (h2 : SeqAt.shaped d' = true) : EC m Y σ W i (.Compare a [.Eq] [b] pos) (PyData.eqv d d') k := fun U l r Q q =>
  ⟨tOp (rEqD Y.K) _ _, fun a => cmpR (by have h := op_eqD (X := Y.X a) (Y.units a); rw [Y.hK a] at h; exact h) (wE_ok a) (wE_ok a) (nomark _), ha U l r _ fun v1 T1 l1 r1 p1 => hb T1 (l.trans l1) r1 _ fun v2 T2 l2 r2 p2 =>
    ⟨d, d', dp_sub T2 (Dp.mono l2.f p1), dp_sub T2 p2, h1, h2, q _ T2 (l1.trans l2) r2 (Dp.bl _)⟩⟩
theorem c_ned (ha : E m Y σ W i a (.d d) j) (hb : E m Y σ W j b (.d d') k) (h1 : SeqAt.shaped d = true) (h2 : SeqAt.shaped d' = true) : EC m Y σ W i (.Compare a [.NotEq] [b] pos) (!PyData.eqv d d') k := fun U l r Q q =>
  ⟨tOp (rNeD Y.K) _ _, fun a => cmpR (by have h := op_neD (X := Y.X a) (Y.units a); rw [Y.hK a] at h; exact h) (wE_ok a) (wE_ok a) (nomark _), ha U l r _ fun v1 T1 l1 r1 p1 => hb T1 (l.trans l1) r1 _ fun v2 T2 l2 r2 p2 =>
    ⟨d, d', dp_sub T2 (Dp.mono l2.f p1), dp_sub T2 p2, h1, h2, q _ T2 (l1.trans l2) r2 (Dp.bl _)⟩⟩
/-! ### arguments, displays -/
theorem ea_nil : EA m Y σ W i [] [] i := fun U _ r Q q => ⟨tNil, fun _ => pa_nil, q [] U (Le.refl U) r .nil⟩
theorem ea_cons {xs : List Sv} (ha : E m Y σ W i e x j) (hb : EA m Y σ W j es xs k) (hs : ∀ a, starEach (e :: es) (Y.X a).env = (false, eval e (Y.X a).env) :: starEach es (Y.X a).env := by intro _; rfl) : EA m Y σ W i (e :: es) (x :: xs) k := fun U h1 r Q q =>
  ⟨_, fun a => pa_cons (wE_ok a) (wA_ok a) (hs a), ha U h1 r _ fun v T1 l1 r1 p1 => hb T1 (h1.trans l1) r1 _ fun vs T2 l2 r2 p2 => q (v :: vs) T2 (l1.trans l2) r2 (.cons (p1.le l2) p2)⟩
def EAd (m : Mode) (Y : Fam) (σ : L2.St) (W : Wd) (i : m.ι) (es : List Expr) (ds : List PD) (j : m.ι) : Prop := EA m Y σ W i es (ds.map Sv.d) j
theorem ed_nil : EAd m Y σ W i [] [] i := ea_nil
theorem ed_cons (ha : E m Y σ W i e (.d d) j) (hb : EAd m Y σ W j es ds k) (hs : ∀ a, starEach (e :: es) (Y.X a).env = (false, eval e (Y.X a).env) :: starEach es (Y.X a).env := by intro _; rfl) : EAd m Y σ W i (e :: es) (d :: ds) k := ea_cons ha hb hs
theorem small5 {n : Nat} (h : n ≤ 100000) : n ≤ sizeLine := Evl.sz_of h
theorem e_tup {q : Nat} (h : EAd m Y σ W i es ds j) (hl : ds.length ≤ 100000 := by exact Nat.le_of_ble_eq_true rfl) : E m Y σ W i (.Tuple es q pos) (.d (.tuple ds)) j := fun U h1 r Q k =>
  ⟨_, fun a => pe_tup (wA_ok a), h U h1 r _ fun vs T l1 r1 p1 => by
    have p2 := p1.ds
    refine ⟨small5 (by rw [p2.len]; exact hl), fun p hp => ?_⟩
    exact k (.ref p) (T.frz p _ hp) (l1.trans (Le.frz hp)) (m.le0 r1 (Le.frz hp)) (Dp.tup (SqT.of upd_same) (p2.mono (upd_none (T.fnone hp))))⟩
theorem el_lst (h : EAd m Y σ W i es ds j) (hl : ds.length ≤ 100000 := by exact Nat.le_of_ble_eq_true rfl) : EL m Y σ W i (.List es pos) ds j := fun U h1 r Q k =>
  ⟨_, fun a => pe_lst (wA_ok a), h U h1 r _ fun vs T l1 r1 p1 => by
    have p2 := p1.ds
    refine ⟨small5 (by rw [p2.len]; exact hl), fun p hp => ?_⟩
    refine k (.ref p) (T.own p _ hp) (l1.trans (Le.own hp)) (m.le0 r1 (Le.own hp)) ⟨p, vs, rfl, ?_, T.fnone hp, upd_same, p2⟩
    cases q : U.H p with
    | none => rfl
    | some o => exact absurd hp (l1.k p (by rw [q]; exact fun z => nomatch z))⟩
theorem Le.back {M : Addr → Prop} {U T : Wd} {p : Addr} (h : Le M U T) (hp : T.H p = none) : U.H p = none := by
  cases q : U.H p with
  | none => rfl
  | some o => exact absurd hp (h.k p (by rw [q]; exact fun z => nomatch z))
/-! ### items -/
theorem dpAt {K : PySem.W.Frag} {F : Hp} {vs : List V} {n : Int} (h : DpAll K F vs ds) (e : atI ds n = some d) : ∃ v, atI vs n = some v ∧ Dp K F v d := by
  unfold atI at e ⊢
  rw [h.len]
  cases q : ixN ds.length n with
  | none =>
    rw [q] at e
    cases e
  | some j =>
    rw [q] at e
    exact h.get' (show ds[j]? = some d from e)
theorem e_ixt {n : Int} (ha : E m Y σ W i a (.d (.tuple ds)) j) (hb : E m Y σ W j b (.d (.int n)) k) (h : atI ds n = some d) (hs : PlainIx b := by intro _ _; rfl) : E m Y σ W i (.Subscript a b pos) (.d d) k := fun U l r Q q =>
  ⟨tOp (rIxT Y.K) _ _, fun a => pe_ix (by have h := ix_tup (X := Y.X a); rw [Y.hK a] at h; exact h) (wE_ok a) (wE_ok a) hs, ha U l r _ fun v1 T1 l1 r1 p1 => hb T1 (l.trans l1) r1 _ fun v2 T2 l2 r2 p2 => by
    obtain ⟨p, vs, e1, e2, e3⟩ := Is.tup p1
    obtain ⟨v, e4, e5⟩ := dpAt e3 h
    exact ⟨p, vs, n, v, e1, p2.int, sqT_sub T2 (Evl.ex_t l2.f e2), e4, q v T2 (l1.trans l2) r2 (Dp.mono l2.f e5)⟩⟩
theorem e_ixl {n : Int} (ha : E m Y σ W i a (.d (.list ds)) j) (hb : E m Y σ W j b (.d (.int n)) k) (h : atI ds n = some d) (hs : PlainIx b := by intro _ _; rfl) : E m Y σ W i (.Subscript a b pos) (.d d) k := fun U l r Q q =>
  ⟨tOp (rIxL Y.K) _ _, fun a => pe_ix (by have h := ix_list (X := Y.X a); rw [Y.hK a] at h; exact h) (wE_ok a) (wE_ok a) hs, ha U l r _ fun v1 T1 l1 r1 p1 => hb T1 (l.trans l1) r1 _ fun v2 T2 l2 r2 p2 => by
    obtain ⟨p, vs, e1, e2, e3⟩ := Is.lst p1
    obtain ⟨v, e4, e5⟩ := dpAt e3 h
    exact ⟨p, vs, n, v, e1, p2.int, sqL_sub T2 (Evl.ex_l l2.f e2), e4, q v T2 (l1.trans l2) r2 (Dp.mono l2.f e5)⟩⟩
/-! ### built-ins -/
abbrev CRd := List V → Hp → VK → Prop
def RC (K : PySem.W.Frag) (r : CRd) (xs : List Sv) (y : Sv) : Prop := ∀ (T : Wd) (vs : List V) (Q : VK), AllIs K T.F vs xs → (∀ v T', Le M0 T T' → Is K T'.F v y → Q v T'.H) → r vs T.H Q
def RCL (K : PySem.W.Frag) (r : CRd) (xs : List Sv) (ds : List PD) : Prop := ∀ (T : Wd) (vs : List V) (Q : VK), AllIs K T.F vs xs →
  (∀ p us T', Le M0 T T' → T.H p = none → T'.F p = none → T'.H p = some (.lst us) → DpAll K T'.F us ds → Q (.ref p) T'.H) → r vs T.H Q
structure BI (Y : Fam) (s : Str) (f : Value) : Prop where
  g : Gb Y s
  m : Y.mg s = none
  v : bootBuiltins s = some f
theorem e_cb {xs : List Sv} {id : String} {s : Str} {r : CRd} (B : BI Y s (.builtin id)) (hc : ∀ a, CallR (Y.X a) (.builtin id) r) (ha : EA m Y σ W i (e :: es) xs j) (hq : RC Y.K r xs y)
    (hn : s ≠ "__name__" := by decide) (hdb : (s == ("__debug__" : Str)) = false := by decide)
    (he : ∀ a, starEach (e :: es) (Y.X a).env = (false, eval e (Y.X a).env) :: starEach es (Y.X a).env := by intro _; rfl) (hpl : ∀ a, (backTo pos (starEach es (Y.X a).env)).any (·.1) = false := by intro _; rfl) :
    E m Y σ W i (.Call (.Name s p) (e :: es) [] pos) y j := fun U h1 r Q k =>
  ⟨_, fun a => pe_callB (hc a) (B.g.gl a) (by rw [Y.hmg]; exact B.m) B.v (wA_ok a) hn hdb (he a) (hpl a), ha U h1 r _ fun vs T l1 r1 p1 => hq T vs Q p1 fun v T' l2 p2 => k v T' (l1.trans l2.of0) (m.le0 r1 l2) p2⟩
theorem e_ct {xs : List Sv} {id : String} {s : Str} {r : CRd} (B : BI Y s (.type id)) (hc : ∀ a, CallR (Y.X a) (.type id) r) (ha : EA m Y σ W i (e :: es) xs j) (hq : RC Y.K r xs y)
    (hn : s ≠ "__name__" := by decide) (hdb : (s == ("__debug__" : Str)) = false := by decide)
    (he : ∀ a, starEach (e :: es) (Y.X a).env = (false, eval e (Y.X a).env) :: starEach es (Y.X a).env := by intro _; rfl) (hpl : ∀ a, (backTo pos (starEach es (Y.X a).env)).any (·.1) = false := by intro _; rfl) :
    E m Y σ W i (.Call (.Name s p) (e :: es) [] pos) y j := fun U h1 r Q k =>
  ⟨_, fun a => pe_callTy (hc a) (B.g.gl a) (by rw [Y.hmg]; exact B.m) B.v (wA_ok a) hn hdb (he a) (hpl a), ha U h1 r _ fun vs T l1 r1 p1 => hq T vs Q p1 fun v T' l2 p2 => k v T' (l1.trans l2.of0) (m.le0 r1 l2) p2⟩
theorem el_cb {xs : List Sv} {id : String} {s : Str} {r : CRd} (B : BI Y s (.builtin id)) (hc : ∀ a, CallR (Y.X a) (.builtin id) r) (ha : EA m Y σ W i (e :: es) xs j) (hq : RCL Y.K r xs ds)
    (hn : s ≠ "__name__" := by decide) (hdb : (s == ("__debug__" : Str)) = false := by decide)
    (he : ∀ a, starEach (e :: es) (Y.X a).env = (false, eval e (Y.X a).env) :: starEach es (Y.X a).env := by intro _; rfl) (hpl : ∀ a, (backTo pos (starEach es (Y.X a).env)).any (·.1) = false := by intro _; rfl) :
    EL m Y σ W i (.Call (.Name s p) (e :: es) [] pos) ds j := fun U h1 r Q k =>
  ⟨_, fun a => pe_callB (hc a) (B.g.gl a) (by rw [Y.hmg]; exact B.m) B.v (wA_ok a) hn hdb (he a) (hpl a), ha U h1 r _ fun vs T l1 r1 p1 => hq T vs Q p1 fun p us T' l2 q1 q2 q3 q4 => k (.ref p) T' (l1.trans l2.of0) (m.le0 r1 l2) ⟨p, us, rfl, l1.back q1, q2, q3, q4⟩⟩
theorem el_ct {xs : List Sv} {id : String} {s : Str} {r : CRd} (B : BI Y s (.type id)) (hc : ∀ a, CallR (Y.X a) (.type id) r) (ha : EA m Y σ W i (e :: es) xs j) (hq : RCL Y.K r xs ds)
    (hn : s ≠ "__name__" := by decide) (hdb : (s == ("__debug__" : Str)) = false := by decide)
    (he : ∀ a, starEach (e :: es) (Y.X a).env = (false, eval e (Y.X a).env) :: starEach es (Y.X a).env := by intro _; rfl) (hpl : ∀ a, (backTo pos (starEach es (Y.X a).env)).any (·.1) = false := by intro _; rfl) :
    EL m Y σ W i (.Call (.Name s p) (e :: es) [] pos) ds j := fun U h1 r Q k =>
  ⟨_, fun a => pe_callTy (hc a) (B.g.gl a) (by rw [Y.hmg]; exact B.m) B.v (wA_ok a) hn hdb (he a) (hpl a), ha U h1 r _ fun vs T l1 r1 p1 => hq T vs Q p1 fun p us T' l2 q1 q2 q3 q4 => k (.ref p) T' (l1.trans l2.of0) (m.le0 r1 l2) ⟨p, us, rfl, l1.back q1, q2, q3, q4⟩⟩
theorem AllIs.inv1 {K : PySem.W.Frag} {F : Hp} {vs : List V} (h : AllIs K F vs [x]) : ∃ v, vs = [v] ∧ Is K F v x := by
  cases h with
  | cons a b =>
    cases b
    exact ⟨_, rfl, a⟩
theorem AllIs.inv2 {K : PySem.W.Frag} {F : Hp} {vs : List V} (h : AllIs K F vs [x, y]) : ∃ v w, vs = [v, w] ∧ Is K F v x ∧ Is K F w y := by
  cases h with
  | cons a b =>
    obtain ⟨w, e, q⟩ := AllIs.inv1 b
    subst e
    exact ⟨_, _, rfl, a, q⟩
theorem AllIs.inv3 {K : PySem.W.Frag} {F : Hp} {vs : List V} (h : AllIs K F vs [x, y, z]) : ∃ v w u, vs = [v, w, u] ∧ Is K F v x ∧ Is K F w y ∧ Is K F u z := by
  cases h with
  | cons a b =>
    obtain ⟨w, u, e, q1, q2⟩ := AllIs.inv2 b
    subst e
    exact ⟨_, _, _, rfl, a, q1, q2⟩
abbrev rLenS (K : PySem.W.Frag) : CRd := fun xs H Q => ∃ p ys, xs = [.ref p] ∧ (SqL K H p ys ∨ SqT K H p ys) ∧ Q (.int ys.length) H
theorem cLen (a : Y.α) : CallR (Y.X a) (.builtin "len") (rLenS Y.K) := by
  have h := call_len_seq (X := Y.X a)
  rw [Y.hK a] at h
  exact h
theorem e_lenL (B : BI Y "len" (.builtin "len")) (ha : E m Y σ W i e (.d (.list ds)) j) (he : ∀ a, starEach [e] (Y.X a).env = (false, eval e (Y.X a).env) :: starEach [] (Y.X a).env := by intro _; rfl) :
    E m Y σ W i (.Call (.Name "len" p) [e] [] pos) (.d (.int (ds.length : Int))) j := e_cb B cLen (ea_cons ha ea_nil he) (fun T vs Q h q => by
  obtain ⟨v, rfl, h1⟩ := h.inv1
  obtain ⟨p, us, rfl, e2, e3⟩ := Is.lst h1
  refine ⟨p, us, rfl, .inl (sqL_sub T e2), ?_⟩
  rw [e3.len]
  exact q _ T (Le.refl T) (Dp.int _)) (he := he)
theorem e_lenT (B : BI Y "len" (.builtin "len")) (ha : E m Y σ W i e (.d (.tuple ds)) j) (he : ∀ a, starEach [e] (Y.X a).env = (false, eval e (Y.X a).env) :: starEach [] (Y.X a).env := by intro _; rfl) :
    E m Y σ W i (.Call (.Name "len" p) [e] [] pos) (.d (.int (ds.length : Int))) j := e_cb B cLen (ea_cons ha ea_nil he) (fun T vs Q h q => by
  obtain ⟨v, rfl, h1⟩ := h.inv1
  obtain ⟨p, us, rfl, e2, e3⟩ := Is.tup h1
  refine ⟨p, us, rfl, .inr (sqT_sub T e2), ?_⟩
  rw [e3.len]
  exact q _ T (Le.refl T) (Dp.int _)) (he := he)
abbrev rListS (K : PySem.W.Frag) : CRd := fun xs H Q => ∃ p ys, xs = [.ref p] ∧ (SqL K H p ys ∨ SqT K H p ys) ∧ ∀ l, H l = none → Q (.ref l) (upd H l (.lst ys))
theorem cList (a : Y.α) : CallR (Y.X a) (.type "list") (rListS Y.K) := by
  have h := call_list_of (X := Y.X a)
  rw [Y.hK a] at h
  exact h
theorem el_listL (B : BI Y "list" (.type "list")) (ha : E m Y σ W i e (.d (.list ds)) j) (he : ∀ a, starEach [e] (Y.X a).env = (false, eval e (Y.X a).env) :: starEach [] (Y.X a).env := by intro _; rfl) :
    EL m Y σ W i (.Call (.Name "list" p) [e] [] pos) ds j := el_ct B cList (ea_cons ha ea_nil he) (fun T vs Q h q => by
  obtain ⟨v, rfl, h1⟩ := h.inv1
  obtain ⟨p, us, rfl, e2, e3⟩ := Is.lst h1
  exact ⟨p, us, rfl, .inl (sqL_sub T e2), fun l hl => q l us (T.own l _ hl) (Le.own hl) hl (T.fnone hl) upd_same e3⟩) (he := he)
theorem el_listT (B : BI Y "list" (.type "list")) (ha : E m Y σ W i e (.d (.tuple ds)) j) (he : ∀ a, starEach [e] (Y.X a).env = (false, eval e (Y.X a).env) :: starEach [] (Y.X a).env := by intro _; rfl) :
    EL m Y σ W i (.Call (.Name "list" p) [e] [] pos) ds j := el_ct B cList (ea_cons ha ea_nil he) (fun T vs Q h q => by
  obtain ⟨v, rfl, h1⟩ := h.inv1
  obtain ⟨p, us, rfl, e2, e3⟩ := Is.tup h1
  exact ⟨p, us, rfl, .inr (sqT_sub T e2), fun l hl => q l us (T.own l _ hl) (Le.own hl) hl (T.fnone hl) upd_same e3⟩) (he := he)
abbrev rTupS (K : PySem.W.Frag) : CRd := fun xs H Q => ∃ p ys, xs = [.ref p] ∧ ((SqL K H p ys ∧ ∀ l, H l = none → Q (.ref l) (upd H l (.tup ys))) ∨ (SqT K H p ys ∧ Q (.ref p) H))
theorem cTup (a : Y.α) : CallR (Y.X a) (.type "tuple") (rTupS Y.K) := by
  have h := call_tuple_of (X := Y.X a)
  rw [Y.hK a] at h
  exact h
theorem e_tupL (B : BI Y "tuple" (.type "tuple")) (ha : E m Y σ W i e (.d (.list ds)) j) (he : ∀ a, starEach [e] (Y.X a).env = (false, eval e (Y.X a).env) :: starEach [] (Y.X a).env := by intro _; rfl) :
    E m Y σ W i (.Call (.Name "tuple" p) [e] [] pos) (.d (.tuple ds)) j := e_ct B cTup (ea_cons ha ea_nil he) (fun T vs Q h q => by
  obtain ⟨v, rfl, h1⟩ := h.inv1
  obtain ⟨p, us, rfl, e2, e3⟩ := Is.lst h1
  exact ⟨p, us, rfl, .inl ⟨sqL_sub T e2, fun l hl => q _ (T.frz l _ hl) (Le.frz hl) (Dp.tup (SqT.of upd_same) (e3.mono (upd_none (T.fnone hl))))⟩⟩) (he := he)
theorem e_abs {n : Int} (B : BI Y "abs" (.builtin "abs")) (ha : E m Y σ W i e (.d (.int n)) j) (he : ∀ a, starEach [e] (Y.X a).env = (false, eval e (Y.X a).env) :: starEach [] (Y.X a).env := by intro _; rfl) :
    E m Y σ W i (.Call (.Name "abs" p) [e] [] pos) (.d (.int (if n < 0 then -n else n))) j := e_cb B (fun _ => call_abs) (ea_cons ha ea_nil he) (fun T vs Q h q => by
  obtain ⟨v, rfl, h1⟩ := h.inv1
  exact ⟨n, by rw [h1.int], q _ T (Le.refl T) (Dp.int _)⟩) (he := he)
theorem e_intI {n : Int} (B : BI Y "int" (.type "int")) (ha : E m Y σ W i e (.d (.int n)) j) (he : ∀ a, starEach [e] (Y.X a).env = (false, eval e (Y.X a).env) :: starEach [] (Y.X a).env := by intro _; rfl) :
    E m Y σ W i (.Call (.Name "int" p) [e] [] pos) (.d (.int n)) j := e_ct B (fun _ => call_int1) (ea_cons ha ea_nil he) (fun T vs Q h q => by
  obtain ⟨v, rfl, h1⟩ := h.inv1
  exact .inl ⟨n, by rw [h1.int], q _ T (Le.refl T) (Dp.int _)⟩) (he := he)
theorem e_max2 {n q : Int} (B : BI Y "max" (.builtin "max")) (ha : E m Y σ W i a (.d (.int n)) j) (hb : E m Y σ W j b (.d (.int q)) k) (he : ∀ c, starEach [a, b] (Y.X c).env = (false, eval a (Y.X c).env) :: starEach [b] (Y.X c).env := by intro _; rfl) (he2 : ∀ c, starEach [b] (Y.X c).env = (false, eval b (Y.X c).env) :: starEach [] (Y.X c).env := by intro _; rfl)
    (hpl : ∀ c, (backTo pos (starEach [b] (Y.X c).env)).any (·.1) = false := by intro _; rfl) : E m Y σ W i (.Call (.Name "max" p) [a, b] [] pos) (.d (.int (if q > n then q else n))) k := e_cb B (fun c => call_max2 (Y.hc c)) (ea_cons ha (ea_cons hb ea_nil he2) he) (fun T vs Q h z => by
  obtain ⟨v, w, rfl, h1, h2⟩ := h.inv2
  exact ⟨n, q, by rw [h1.int, h2.int], z _ T (Le.refl T) (Dp.int _)⟩) (he := he) (hpl := hpl)
theorem e_min2 {n q : Int} (B : BI Y "min" (.builtin "min")) (ha : E m Y σ W i a (.d (.int n)) j) (hb : E m Y σ W j b (.d (.int q)) k) (he : ∀ c, starEach [a, b] (Y.X c).env = (false, eval a (Y.X c).env) :: starEach [b] (Y.X c).env := by intro _; rfl) (he2 : ∀ c, starEach [b] (Y.X c).env = (false, eval b (Y.X c).env) :: starEach [] (Y.X c).env := by intro _; rfl)
    (hpl : ∀ c, (backTo pos (starEach [b] (Y.X c).env)).any (·.1) = false := by intro _; rfl) : E m Y σ W i (.Call (.Name "min" p) [a, b] [] pos) (.d (.int (if q < n then q else n))) k := e_cb B (fun c => call_min2 (Y.hc c)) (ea_cons ha (ea_cons hb ea_nil he2) he) (fun T vs Q h z => by
  obtain ⟨v, w, rfl, h1, h2⟩ := h.inv2
  exact ⟨n, q, by rw [h1.int, h2.int], z _ T (Le.refl T) (Dp.int _)⟩) (he := he) (hpl := hpl)
theorem cAll (a : Y.α) : CallR (Y.X a) (.builtin "all") (rAll Y.K) := by
  have h := cr_all (X := Y.X a) (Y.hc a)
  rw [Y.hK a] at h
  exact h
theorem cAny (a : Y.α) : CallR (Y.X a) (.builtin "any") (rAny Y.K) := by
  have h := cr_any (X := Y.X a) (Y.hc a)
  rw [Y.hK a] at h
  exact h
theorem e_all {bs : List Bool} (B : BI Y "all" (.builtin "all")) (ha : E m Y σ W i e (.d (.list (bs.map .bool))) j) (he : ∀ a, starEach [e] (Y.X a).env = (false, eval e (Y.X a).env) :: starEach [] (Y.X a).env := by intro _; rfl) :
    E m Y σ W i (.Call (.Name "all" p) [e] [] pos) (.d (.bool (bs.all id))) j := e_cb B cAll (ea_cons ha ea_nil he) (fun T vs Q h q => by
  obtain ⟨v, rfl, h1⟩ := h.inv1
  obtain ⟨p, us, rfl, e2, e3⟩ := Is.lst h1
  refine ⟨p, bs, rfl, ?_, q _ T (Le.refl T) (Dp.bl _)⟩
  rw [← e3.bls]
  exact sqL_sub T e2) (he := he)
theorem e_any {bs : List Bool} (B : BI Y "any" (.builtin "any")) (ha : E m Y σ W i e (.d (.list (bs.map .bool))) j) (he : ∀ a, starEach [e] (Y.X a).env = (false, eval e (Y.X a).env) :: starEach [] (Y.X a).env := by intro _; rfl) :
    E m Y σ W i (.Call (.Name "any" p) [e] [] pos) (.d (.bool (bs.any id))) j := e_cb B cAny (ea_cons ha ea_nil he) (fun T vs Q h q => by
  obtain ⟨v, rfl, h1⟩ := h.inv1
  obtain ⟨p, us, rfl, e2, e3⟩ := Is.lst h1
  refine ⟨p, bs, rfl, ?_, q _ T (Le.refl T) (Dp.bl _)⟩
  rw [← e3.bls]
  exact sqL_sub T e2) (he := he)
end
end Pv
set_option Elab.async false
set_option linter.all false
set_option maxRecDepth 100000
set_option maxHeartbeats 2000000
namespace Pv
open PySem PySem.Spec PyProof.Rows L2

/-! ### a def: its promise, its call -/
abbrev Spg := List V → Hp → VK → Prop
structure FnG (P : Program) (w : World) (K : PySem.W.Frag) (mg : Str → Option Value) (base : Heap) (k : Nat) (f : Addr) (fd : FuncData) (ps : List Str) (sp : Spg) : Prop where
  len : ∀ vs H Q, sp vs H Q → vs.length = ps.length
  run : ∀ (A : Around) (outer : List Env) (s : Shared) (H : Hp) (args : Args) (us : List Value) (vs : List V) (Q : VK), RoomG k A → Env0 P w K mg base A outer s H → BindsTo s fd args (ps.zip us) → Vals vs us → sp vs H Q →
    codeAny (model P w) A (.call (.ref f) args) (CR CX0 outer P w H s Q E0) s
theorem FnG.mono {P : Program} {w : World} {K : PySem.W.Frag} {mg : Str → Option Value} {base : Heap} {j k : Nat} {f : Addr} {fd : FuncData} {ps : List Str} {sp : Spg} (F : FnG P w K mg base j f fd ps sp) (h : j ≤ k) : FnG P w K mg base k f fd ps sp :=
  ⟨F.len, fun A outer s H args us vs Q r => F.run A outer s H args us vs Q (r.mono h)⟩
abbrev FnD (K : PySem.W.Frag) (x : Str) (st : Stmt) (f : Addr) (fd : FuncData) : Prop := FunD K x x (defArgs st) (defBody st) (defScope st) [] [] f fd
/-- the body's family of contexts (one context) -/
def dFam (P : Program) (w : World) (K : PySem.W.Frag) (mg : Str → Option Value) (base : Heap) (N : List Str) (nd : N.Nodup) (qual : Str) (sc : Scope) (f : Addr) (cdv : Value) (A : Around) (outer : List Env) (s : Shared) (H : Hp) (k : Nat)
    (hr : RoomG k (A.deeper (envOfC qual sc s.heap.objs.size f cdv))) : Fam where
  α := Unit
  X := fun _ => (cxOf CX0 P w K mg base N qual sc f cdv A outer s H E0).nox
  P := P
  w := w
  K := K
  mg := mg
  base := base
  N := N
  sc := sc
  k := k
  hP := fun _ => rfl
  hw := fun _ => rfl
  hK := fun _ => rfl
  hmg := fun _ => rfl
  hbase := fun _ => rfl
  hN := fun _ => rfl
  hsc := fun _ => rfl
  hc := fun _ => rfl
  hr := fun _ => hr
  nd := nd
theorem fnG_of {P : Program} {w : World} {K : PySem.W.Frag} {mg : Str → Option Value} {base : Heap} {x : Str} {st : Stmt} {f : Addr} {fd : FuncData} {N ps : List Str} {k : Nat} {sp : Spg} (F : FnD K x st f fd) (S : FnScope N ps (defScope st))
    (len : ∀ vs H Q, sp vs H Q → vs.length = ps.length)
    (hbody : ∀ (cdv : Value) (A : Around) (outer : List Env) (s : Shared) (H : Hp) (hr : RoomG k (A.deeper (envOfC x (defScope st) s.heap.objs.size f cdv))) (vs : List V) (Q : VK), sp vs H Q →
      wSs (dFam P w K mg base N S.nd x (defScope st) f cdv A outer s H k hr) (defBody st) { nx := fun _ H' => Q .non H', rt := Q } (L2.start N vs) H) : FnG P w K mg base (k + 1) f fd ps sp := by
  obtain ⟨oc, od, dV, kV, doc, pm, an, cdv, ct, osl, rfl, lk, hcd, _, _⟩ := F.ex
  refine ⟨len, fun A outer s H args us vs Q hr e0 hb r h => ?_⟩
  refine LamX.run_ofS lk hcd S hr.r e0 hb r (len vs H Q h) fun hr' => ?_
  have hg : RoomG k (A.deeper (envOfC x (defScope st) s.heap.objs.size f cdv)) := ⟨hr', hr.g⟩
  exact ⟨_, (wSs_ok (Y := dFam P w K mg base N S.nd x (defScope st) f cdv A outer s H k hg) ()).nox, hbody cdv A outer s H hg vs Q h⟩

section
variable {X : Cx} {k : Nat} {f : Addr} {fd : FuncData} {ps : List Str} {sp : Spg} {x : Str} {p pos : Pos} {e : Expr} {es : List Expr} {t : TA}
theorem run_fnG {pins : List (Addr × Obj)} {σ : L2.St} {H : Hp} {s : Shared} {Q : VK} {us us' : List Value} {kw : List (Str × Value)} {vs : List V} (F : FnG X.prog X.w X.K X.mg X.base k f fd ps sp) (hr : RoomG k X.A) (hb : BindsTo s fd ⟨us', kw⟩ (ps.zip us))
    (I : Inv X pins σ H s) (r : Vals vs us) (h : sp vs H Q) : wpAny (model X.prog X.w) X.A (call (.ref f) us' kw) (EP X pins σ Q) X.xe s := by
  refine wpAny_call (codeAny_mono (F.run X.A X.stack s H ⟨us', kw⟩ us vs Q hr I.env0 hb r h) fun r s' hq => ?_)
  cases r with
  | error e => exact (show False from hq).elim
  | ok fl =>
    cases fl with
    | ret u => exact I.after hq
    | next => exact False.elim hq
    | brk => exact False.elim hq
    | cont => exact False.elim hq
theorem pe_callG (F : FnG X.prog X.w X.K X.mg X.base k f fd ps sp) (hr : RoomG k X.A) (hg : Gl X x) (hm : X.mg x = some (.ref f)) (hk : PySem.W.keepIn X.K (.ref f) = true) (hb : Binds X.K fd ps [])
    (ha : PA X (e :: es) t) (hdb : (x == ("__debug__" : Str)) = false) (he : starEach (e :: es) X.env = (false, eval e X.env) :: starEach es X.env) (hpl : (backTo pos (starEach es X.env)).any (·.1) = false) :
    PE X (.Call (.Name x p) (e :: es) [] pos) (fun σ H Q => t σ H fun vs H1 => sp vs H1 Q) := by
  refine ⟨fun pins s σ H Q I h => ?_⟩
  refine wpAny_Call_Name_kw (ld_glob I hg hm ?_ hdb)
  refine PySem.W.callWith_K (h₀ := X.base) I.ok.mod.kin hk ?_ he hpl
  refine thn (ha.run pos pins s σ H _ I h) fun us s1 ⟨vs, H1, I1, r, q⟩ => ⟨I1.kIn, ?_⟩
  have hb1 := hb s1 us I1.kIn (by rw [List.append_nil, ← r.length]; exact F.len _ _ _ q)
  rw [List.append_nil] at hb1
  exact run_fnG F hr hb1 I1 r q
theorem pe_callGK {kws : List Keyword} {ks : List Str} {g : List Value → List Value} {gV : List V → List V} (F : FnG X.prog X.w X.K X.mg X.base k f fd ps sp) (hr : RoomG k X.A) (hg : Gl X x) (hm : X.mg x = some (.ref f)) (hk : PySem.W.keepIn X.K (.ref f) = true)
    (hb : ∀ (s : Shared) (ws : List Value), ws.length = ks.length → BindsTo s fd ⟨[], ks.zip ws⟩ (ps.zip (g ws))) (hrel : ∀ {vs : List V} {us : List Value}, Vals vs us → Vals (gV vs) (g us)) (hkw : PK X kws t)
    (hall : (backToKw pos (keywordEach kws X.env)).all (·.1.isSome) = true) (hks : (backToKw pos (keywordEach kws X.env)).filterMap (·.1) = ks) (hdb : (x == ("__debug__" : Str)) = false)
    (hpl : ((backTo pos (starEach [] X.env)).any (·.1) || (backToKw pos (keywordEach kws X.env)).any (·.1.isNone)) = false) :
    PE X (.Call (.Name x p) [] kws pos) (fun σ H Q => t σ H fun vs H1 => vs.length = ks.length ∧ sp (gV vs) H1 Q) := by
  refine ⟨fun pins s σ H Q I h => ?_⟩
  refine wpAny_Call_Name_kw (ld_glob I hg hm ?_ hdb)
  refine PySem.W.callWith_KW0 (h₀ := X.base) I.ok.mod.kin hk hall ?_ hpl
  refine thn (hkw.run pos pins s σ H _ I h) fun ws s1 ⟨zs, H1, I1, rz, hl, q⟩ => ⟨I1.kIn, ?_⟩
  rw [hks]
  exact run_fnG F hr (hb s1 ws (rz.length.symm.trans hl)) I1 (hrel rz) q
end

/-- the promise of a pure def: data in, data out -/
def pureSp (K : PySem.W.Frag) (R : List Sv → Sv → Prop) : Spg := fun vs H Q => ∃ (W : Wd) (xs : List Sv) (y : Sv), W.H = H ∧ AllIs K W.F vs xs ∧ R xs y ∧ ∀ v T, Le M0 W T → Is K T.F v y → Q v T.H
def pickL {α : Type} (ix : List Nat) (xs : List α) : List α := ix.filterMap fun n => xs[n]?
theorem Vals.pick {vs : List V} {us : List Value} (r : Vals vs us) : ∀ ix : List Nat, Vals (pickL ix vs) (pickL ix us)
  | [] => .nil
  | n :: ix => by
    unfold pickL
    rw [List.filterMap_cons, List.filterMap_cons]
    cases e : vs[n]? with
    | none =>
      rw [r.none_of e]
      exact Vals.pick r ix
    | some v =>
      obtain ⟨u, h1, h2⟩ := r.get e
      rw [h1]
      exact .cons h2 (Vals.pick r ix)
theorem AllIs.get {K : PySem.W.Frag} {F : Hp} : ∀ {vs : List V} {xs : List Sv} (n : Nat), AllIs K F vs xs → (vs[n]? = none ∧ xs[n]? = none) ∨ ∃ v x, vs[n]? = some v ∧ xs[n]? = some x ∧ Is K F v x
  | _, _, _, .nil => .inl ⟨by simp, by simp⟩
  | _, _, 0, .cons a _ => .inr ⟨_, _, by simp, by simp, a⟩
  | _, _, n + 1, .cons _ b => by
    rcases AllIs.get n b with ⟨h1, h2⟩ | ⟨v, x, h1, h2, h3⟩
    · exact .inl ⟨by simpa using h1, by simpa using h2⟩
    · exact .inr ⟨v, x, by simpa using h1, by simpa using h2, h3⟩
theorem AllIs.pick {K : PySem.W.Frag} {F : Hp} {vs : List V} {xs : List Sv} (r : AllIs K F vs xs) : ∀ ix : List Nat, AllIs K F (pickL ix vs) (pickL ix xs)
  | [] => .nil
  | n :: ix => by
    unfold pickL
    rw [List.filterMap_cons, List.filterMap_cons]
    rcases r.get n with ⟨h1, h2⟩ | ⟨v, x, h1, h2, h3⟩
    · rw [h1, h2]
      exact AllIs.pick r ix
    · rw [h1, h2]
      exact .cons h3 (AllIs.pick r ix)

/-- how a def stands in the module -/
structure Def (P : Program) (w : World) (K : PySem.W.Frag) (mg : Str → Option Value) (base : Heap) (s : Str) (k : Nat) (ps : List Str) (sp : Spg) : Prop where
  ex : ∃ (f : Addr) (fd : FuncData), mg s = some (.ref f) ∧ PySem.W.keepIn K (.ref f) = true ∧ Binds K fd ps [] ∧
    (∀ (ks : List Str) (ix : List Nat), (∀ us : List Value, us.length = ks.length → bindArgs fd ⟨[], ks.zip us⟩ = pure (ps.zip (pickL ix us))) → ∀ (s : Shared) (ws : List Value), ws.length = ks.length → BindsTo s fd ⟨[], ks.zip ws⟩ (ps.zip (pickL ix ws))) ∧
    FnG P w K mg base k f fd ps sp

section
variable {m : Mode} {Y : Fam} {σ : L2.St} {W W' : Wd} {i j k l : m.ι} {e a b c : Expr} {es : List Expr} {rest body : List Stmt} {pos p p' : Pos} {x y z : Sv} {d d' : PD} {ds : List PD} {u v : Bool} {D : Ends} {s : Str} {n : Nat}
theorem e_call {q : Nat} {f : Addr} {fd : FuncData} {ps : List Str} {R : List Sv → Sv → Prop} {xs : List Sv} (F : FnG Y.P Y.w Y.K Y.mg Y.base q f fd ps (pureSp Y.K R)) (hq : q ≤ Y.k) (hg : Gb Y s) (hm : Y.mg s = some (.ref f)) (hk : PySem.W.keepIn Y.K (.ref f) = true) (hb : Binds Y.K fd ps [])
    (ha : EA m Y σ W i (e :: es) xs j) (hR : R xs y) (hdb : (s == ("__debug__" : Str)) = false := by decide)
    (he : ∀ a, starEach (e :: es) (Y.X a).env = (false, eval e (Y.X a).env) :: starEach es (Y.X a).env := by intro _; rfl) (hpl : ∀ a, (backTo pos (starEach es (Y.X a).env)).any (·.1) = false := by intro _; rfl) :
    E m Y σ W i (.Call (.Name s p) (e :: es) [] pos) y j := fun U h1 r Q q =>
  ⟨fun σ H Q => wA Y (e :: es) σ H fun vs H1 => pureSp Y.K R vs H1 Q, fun a => pe_callG (by rw [Y.hP, Y.hw, Y.hK, Y.hmg, Y.hbase]; exact F) ((Y.hr a).mono hq) (hg.gl a) (by rw [Y.hmg]; exact hm) (by rw [Y.hK]; exact hk) (by rw [Y.hK]; exact hb) (wA_ok a) hdb (he a) (hpl a),
    ha U h1 r _ fun vs T l1 r1 p1 => ⟨T, xs, y, rfl, p1, hR, fun v T' l2 p2 => q v T' (l1.trans l2.of0) (m.le0 r1 l2) p2⟩⟩
def wK (Y : Fam) (kws : List Keyword) : TA := fun σ H Q => ∃ t : TA, (∀ a, PK (Y.X a) kws t) ∧ t σ H Q
theorem wK_ok {Y : Fam} {kws : List Keyword} (a : Y.α) : PK (Y.X a) kws (wK Y kws) := ⟨fun pos pins s σ H Q I ⟨_, h, q⟩ => (h a).run pos pins s σ H Q I q⟩
def EK (m : Mode) (Y : Fam) (σ : L2.St) (W : Wd) (i : m.ι) (kws : List Keyword) (xs : List Sv) (j : m.ι) : Prop :=
  ∀ U, Le m.M W U → m.R i U → ∀ Q : List V → Hp → Prop, (∀ vs T, Le m.M U T → m.R j T → AllIs Y.K T.F vs xs → Q vs T.H) → wK Y kws σ U.H Q
theorem ek_nil : EK m Y σ W i [] [] i := fun U _ r Q q => ⟨tNil, fun _ => pk_nil, q [] U (Le.refl U) r .nil⟩
theorem ek_cons {xs : List Sv} {nm : Option Str} {kpos : Pos} {kws : List Keyword} (ha : E m Y σ W i e x j) (hb : EK m Y σ W j kws xs k) : EK m Y σ W i (⟨nm, e, kpos⟩ :: kws) (x :: xs) k := fun U h1 r Q q =>
  ⟨_, fun a => pk_cons (wE_ok a) (wK_ok a), ha U h1 r _ fun v T1 l1 r1 p1 => hb T1 (h1.trans l1) r1 _ fun vs T2 l2 r2 p2 => q (v :: vs) T2 (l1.trans l2) r2 (.cons (p1.le l2) p2)⟩
theorem e_callk {q : Nat} {f : Addr} {fd : FuncData} {ps ks : List Str} {R : List Sv → Sv → Prop} {xs : List Sv} {kws : List Keyword} {ix : List Nat} (F : FnG Y.P Y.w Y.K Y.mg Y.base q f fd ps (pureSp Y.K R)) (hq : q ≤ Y.k) (hg : Gb Y s) (hm : Y.mg s = some (.ref f)) (hk : PySem.W.keepIn Y.K (.ref f) = true)
    (hb : ∀ (s : Shared) (ws : List Value), ws.length = ks.length → BindsTo s fd ⟨[], ks.zip ws⟩ (ps.zip (pickL ix ws))) (ha : EK m Y σ W i kws xs j) (hl : xs.length = ks.length) (hR : R (pickL ix xs) y) (hdb : (s == ("__debug__" : Str)) = false := by decide)
    (hall : ∀ a, (backToKw pos (keywordEach kws (Y.X a).env)).all (·.1.isSome) = true := by intro _; rfl) (hks : ∀ a, (backToKw pos (keywordEach kws (Y.X a).env)).filterMap (·.1) = ks := by intro _; rfl)
    (hpl : ∀ a, ((backTo pos (starEach [] (Y.X a).env)).any (·.1) || (backToKw pos (keywordEach kws (Y.X a).env)).any (·.1.isNone)) = false := by intro _; rfl) :
    E m Y σ W i (.Call (.Name s p) [] kws pos) y j := fun U h1 r Q q =>
  ⟨fun σ H Q => wK Y kws σ H fun vs H1 => vs.length = ks.length ∧ pureSp Y.K R (pickL ix vs) H1 Q, fun a => pe_callGK (gV := pickL ix) (g := pickL ix) (by rw [Y.hP, Y.hw, Y.hK, Y.hmg, Y.hbase]; exact F) ((Y.hr a).mono hq) (hg.gl a) (by rw [Y.hmg]; exact hm) (by rw [Y.hK]; exact hk) hb (fun r => Vals.pick r ix) (wK_ok a) (hall a) (hks a) hdb (hpl a),
    ha U h1 r _ fun vs T l1 r1 p1 => ⟨p1.len.trans hl, T, pickL ix xs, y, rfl, p1.pick ix, hR, fun v T' l2 p2 => q v T' (l1.trans l2.of0) (m.le0 r1 l2) p2⟩⟩

/-! ### statements -/
theorem s_nil (h : D.nx σ W.H) : wSs Y [] D σ W.H := ⟨tNext, fun _ => pss_nil, h⟩
theorem s_ret (he : E m Y σ W i e x j) (r : m.R i W) (k : ∀ v T, Le m.M W T → m.R j T → Is Y.K T.F v x → D.rt v T.H) : wSs Y (.Return (some e) p :: rest) D σ W.H :=
  ⟨_, fun a => pss_cons (ps_ret (wE_ok a)) (wSs_ok (ss := rest) a), he W (Le.refl W) r _ k⟩
theorem s_retN (k : D.rt .non W.H) : wSs Y (.Return none p :: rest) D σ W.H := ⟨_, fun a => pss_cons ps_retN (wSs_ok (ss := rest) a), k⟩
theorem s_break (k : D.bk σ W.H) : wSs Y (.Break p :: rest) D σ W.H := ⟨_, fun a => pss_cons ps_break (wSs_ok (ss := rest) a), k⟩
theorem s_cont (k : D.ct σ W.H) : wSs Y (.Continue p :: rest) D σ W.H := ⟨_, fun a => pss_cons ps_continue (wSs_ok (ss := rest) a), k⟩
theorem s_setG {P : Wd → V → Wd → Prop} (he : EG m Y σ W i e P j) (r : m.R i W) (hi : Y.N[n]? = some s) (hx : Loc Y.sc s)
    (k : ∀ v T, Le m.M W T → m.R j T → P W v T → wSs Y rest D (σ.set n (some v)) T.H)
    (hsw : ∀ a, swapsWith e (some (.Name s p')) p.line (Y.X a).env = pure false := by intro _; rfl) (hf : ∀ a, (Y.X a).fn s = true ∨ (Y.X a).env.scope.names.lookup s = some .local := by intro _; first | exact .inl rfl | exact .inr rfl) : wSs Y (.Assign [.Name s p'] e p :: rest) D σ W.H :=
  ⟨_, fun a => pss_cons (ps_set (i := n) (by rw [Y.hN]; exact Y.nd) (by rw [Y.hN]; exact hi) (by rw [Y.hsc]; exact hx) (wE_ok a) (hsw a) (hf a)) (wSs_ok a), he W (Le.refl W) r _ k⟩
theorem s_set (he : E m Y σ W i e x j) (r : m.R i W) (hi : Y.N[n]? = some s) (hx : Loc Y.sc s) (k : ∀ v T, Le m.M W T → m.R j T → Is Y.K T.F v x → wSs Y rest D (σ.set n (some v)) T.H)
    (hsw : ∀ a, swapsWith e (some (.Name s p')) p.line (Y.X a).env = pure false := by intro _; rfl) (hf : ∀ a, (Y.X a).fn s = true ∨ (Y.X a).env.scope.names.lookup s = some .local := by intro _; first | exact .inl rfl | exact .inr rfl) : wSs Y (.Assign [.Name s p'] e p :: rest) D σ W.H :=
  s_setG he r hi hx k hsw hf
theorem s_if (ht : ET m Y σ W i c u j) (r : m.R i W) (h1 : u = true → ∀ T, Le m.M W T → m.R j T → wSs Y body { D with nx := fun σ' H' => wSs Y rest D σ' H' } σ T.H) {els : List Stmt}
    (h2 : u = false → ∀ T, Le m.M W T → m.R j T → wSs Y els { D with nx := fun σ' H' => wSs Y rest D σ' H' } σ T.H) : wSs Y (.If c body els p :: rest) D σ W.H :=
  ⟨_, fun a => pss_cons (ps_if (wT_ok a) (wSs_ok a) (wSs_ok a)) (wSs_ok a), ht W (Le.refl W) r _ fun T l1 r1 => by
    cases u with
    | true => exact h1 rfl T l1 r1
    | false => exact h2 rfl T l1 r1⟩
/-- an if without else -/
theorem s_when (ht : ET m Y σ W i c u j) (r : m.R i W) (h1 : u = true → ∀ T, Le m.M W T → m.R j T → wSs Y body { D with nx := fun σ' H' => wSs Y rest D σ' H' } σ T.H)
    (h2 : u = false → ∀ T, Le m.M W T → m.R j T → wSs Y rest D σ T.H) : wSs Y (.If c body [] p :: rest) D σ W.H :=
  s_if ht r h1 fun hu T l1 r1 => s_nil (h2 hu T l1 r1)
/-- an expression dropped -/
theorem s_exprG {P : Wd → V → Wd → Prop} (he : EG m Y σ W i e P j) (r : m.R i W) (k : ∀ v T, Le m.M W T → m.R j T → P W v T → wSs Y rest D σ T.H) (hs : ∀ a, swapsWith e none p.line (Y.X a).env = pure false := by intro _; rfl) : wSs Y (.Expr e p :: rest) D σ W.H :=
  ⟨_, fun a => pss_cons (ps_expr (wE_ok a) (hs a)) (wSs_ok a), he W (Le.refl W) r _ k⟩
/-! ### targets -/
theorem g_name {Q : L2.St → Hp → Prop} {v : V} {H : Hp} (hi : Y.N[n]? = some s) (hx : Loc Y.sc s) (h : Q (σ.set n (some v)) H) (hf : ∀ a, (Y.X a).fn s = true ∨ (Y.X a).env.scope.names.lookup s = some .local := by intro _; first | exact .inl rfl | exact .inr rfl) : wG Y (.Name s p) v σ H Q :=
  ⟨gName n, fun a => pg_name (by rw [Y.hN]; exact Y.nd) (by rw [Y.hN]; exact hi) (by rw [Y.hsc]; exact hx) (hf a), h⟩
/-- several targets against values -/
def wGs (Y : Fam) (ts : List Expr) : TGs := fun vs σ H Q => ∃ t : TGs, (∀ a, PGs (Y.X a) ts t) ∧ t vs σ H Q
theorem wGs_ok {Y : Fam} {ts : List Expr} (a : Y.α) : PGs (Y.X a) ts (wGs Y ts) := ⟨fun pins s σ H vs us Q I r ⟨_, h, q⟩ => (h a).run pins s σ H vs us Q I r q⟩
theorem gs_nil {Q : L2.St → Hp → Prop} {H : Hp} (h : Q σ H) : wGs Y [] [] σ H Q := ⟨gNil, fun _ => pgs_nil, rfl, h⟩
theorem gs_cons {t : Expr} {ts : List Expr} {Q : L2.St → Hp → Prop} {H : Hp} {v : V} {vs : List V} (h : wG Y t v σ H fun σ' H' => wGs Y ts vs σ' H' Q) (hs : ∀ a, (assignEach (t :: ts) (Y.X a).env).map (·.2) = assign t (Y.X a).env :: (assignEach ts (Y.X a).env).map (·.2) := by intro _; rfl) : wGs Y (t :: ts) (v :: vs) σ H Q :=
  ⟨_, fun a => pgs_cons (wG_ok a) (wGs_ok a) (hs a), v, vs, rfl, h⟩
theorem g_tup {ts : List Expr} {q : Nat} {Q : L2.St → Hp → Prop} {v : V} {a : Addr} {vs : List V} {H : Hp} (hv : v = .ref a) (ht : SqT Y.K H a vs) (h : wGs Y ts vs σ H Q) (hl : vs.length = ts.length)
    (hn : ∀ a, (assignEach ts (Y.X a).env).length = ts.length := by intro _; rfl) (hst : ∀ a, (assignEach ts (Y.X a).env).findIdx? (·.1) = none := by intro _; rfl) : wG Y (.Tuple ts q p) v σ H Q :=
  ⟨gTup Y.K ts.length (wGs Y ts), fun a => by
    have h := pg_tup (pos := p) (k := q) (Y.hc a) (wGs_ok (ts := ts) a) (hn a) (hst a)
    rw [Y.hK a] at h
    exact h, a, vs, hv, ht, hl, h⟩
/-- target = value, the target no single name -/
theorem s_asg {P : Wd → V → Wd → Prop} {tg : Expr} (he : EG m Y σ W i e P j) (r : m.R i W) (k : ∀ v T, Le m.M W T → m.R j T → P W v T → wG Y tg v σ T.H fun σ' H' => wSs Y rest D σ' H')
    (hs : ∀ a, swapsWithSole [tg] e p.line (Y.X a).env = pure false := by intro _; rfl) (hw : ∀ a, swappedStores [tg] e (Y.X a).env = pure none := by intro _; rfl)
    (h1 : ∀ a, (assignEach [tg] (Y.X a).env).map (·.2) = [assign tg (Y.X a).env] := by intro _; rfl) : wSs Y (.Assign [tg] e p :: rest) D σ W.H :=
  ⟨_, fun a => pss_cons (ps_asg (wE_ok a) (wG_ok a) (hs a) (hw a) (h1 a)) (wSs_ok a), he W (Le.refl W) r _ k⟩
/-- arguments by words on the values (for lists not frozen) -/
theorem s_par2 {s1 s2 : Str} {n1 n2 q1 q2 : Nat} {a b : Expr} {px py pt pt2 : Pos} {xs : List Sv} (ha : EA m Y σ W i [a, b] [x, y] j) (r : m.R i W) (hi : Y.N[n1]? = some s1) (hj : Y.N[n2]? = some s2) (hij : n1 ≠ n2)
    (hx : Y.sc.names.lookup s1 = some .local) (hy : Y.sc.names.lookup s2 = some .local) (k : ∀ v1 v2 T, Le m.M W T → m.R j T → Is Y.K T.F v1 x → Is Y.K T.F v2 y → wSs Y rest D ((σ.set n1 (some v1)).set n2 (some v2)) T.H)
    (hw : ∀ c, swappedStores [.Tuple [.Name s1 px, .Name s2 py] q1 pt] (.Tuple [a, b] q2 pt2) (Y.X c).env = pure (some [s1, s2]) := by intro _; rfl)
    (hs : ∀ c, swapsWithSole [.Tuple [.Name s1 px, .Name s2 py] q1 pt] (.Tuple [a, b] q2 pt2) p.line (Y.X c).env = pure false := by intro _; rfl) :
    wSs Y (.Assign [.Tuple [.Name s1 px, .Name s2 py] q1 pt] (.Tuple [a, b] q2 pt2) p :: rest) D σ W.H :=
  ⟨_, fun c => pss_cons (ps_par (Y.hc c) (by rw [Y.hN]; exact Y.nd) (by rw [Y.hN]; exact hi) (by rw [Y.hN]; exact hj) hij (by rw [Y.hsc]; exact hx) (by rw [Y.hsc]; exact hy) (wA_ok c) (hw c) (hs c)) (wSs_ok c),
    ha W (Le.refl W) r _ fun vs T l1 r1 p1 => by
      obtain ⟨v1, v2, rfl, h1, h2⟩ := p1.inv2
      exact ⟨v1, v2, rfl, k v1 v2 T l1 r1 h1 h2⟩⟩
end
end Pv
set_option Elab.async false
set_option linter.all false
set_option maxRecDepth 100000
set_option maxHeartbeats 2000000
namespace Pv
open PySem PySem.Spec PyProof.Rows L2 RZ
/-! ### what is walked -/
def Fl (W V : Wd) : Prop := ∀ a o, W.F a = some o → V.F a = some o
theorem Fl.refl (W : Wd) : Fl W W := fun _ _ h => h
theorem Fl.trans {W V U : Wd} (a : Fl W V) (b : Fl V U) : Fl W U := fun x o h => b x o (a x o h)
theorem Le.fl {M : Addr → Prop} {W V : Wd} (h : Le M W V) : Fl W V := h.f
/-- n items; the k-th one is x, so that it k x holds -/
def ITok (J : It) (n : Nat) (it : Nat → V → Wd → Prop) (T0 : Wd) : Prop :=
  (∀ T, Fl T0 T → J.stop n T.H) ∧ ∀ k, k < n → ∀ T, Fl T0 T → J.go k T.H ∧ ∀ x H', J.yld k T.H x H' → ∃ T', T'.H = H' ∧ Le M0 T T' ∧ it k x T'
def EI (m : Mode) (Y : Fam) (σ : L2.St) (W : Wd) (i : m.ι) (tg iter : Expr) (n : Nat) (it : Nat → V → Wd → Prop) (j : m.ι) : Prop :=
  ∀ U, Le m.M W U → m.R i U → ∀ Z : It → Hp → Prop, (∀ J T, Le m.M U T → m.R j T → ITok J n it T → Z J T.H) → wI Y tg iter σ U.H Z
section
variable {m : Mode} {Y : Fam} {σ : L2.St} {W W' : Wd} {i j k l : m.ι} {e a b c tg iter : Expr} {es : List Expr} {rest body : List Stmt} {pos p p' : Pos} {x y z : Sv} {d d' : PD} {ds : List PD} {u v : Bool} {D : Ends} {s : Str} {n : Nat}
def itL (K : PySem.W.Frag) (ds : List PD) : Nat → V → Wd → Prop := fun k x T => ∃ d, ds[k]? = some d ∧ Dp K T.F x d
theorem ei_list (h : E m Y σ W i e (.d (.list ds)) j) : EI m Y σ W i tg e ds.length (itL Y.K ds) j := fun U h1 r Z q =>
  ⟨iList Y.K (wE Y e), fun a => by
    have h := pi_list (tg := tg) (wE_ok (e := e) a)
    rw [Y.hK a] at h
    exact h, h U h1 r _ fun v T l1 r1 p1 => by
    obtain ⟨a, vs, e1, e2, e3⟩ := Is.lst p1
    subst e1
    refine ⟨a, rfl, ⟨vs, sqL_sub T e2⟩, q _ T l1 r1 ⟨fun T' hf => ⟨vs, sqL_sub T' (Evl.ex_l hf e2), by rw [e3.len]; exact Nat.le_refl _⟩, fun k hk T' hf => ?_⟩⟩
    have sq : SqL Y.K T'.H a vs := sqL_sub T' (Evl.ex_l hf e2)
    have hk' : k < vs.length := by rw [e3.len]; exact hk
    refine ⟨⟨vs, vs[k], sq, by simp [hk']⟩, fun x H' ⟨hH, hx⟩ => ⟨T', hH.symm, Le.refl T', ?_⟩⟩
    obtain ⟨d, h1, h2⟩ := e3.get (hx vs sq)
    exact ⟨d, h1, h2.mono hf⟩⟩
theorem ei_tup (h : E m Y σ W i e (.d (.tuple ds)) j) : EI m Y σ W i tg e ds.length (itL Y.K ds) j := fun U h1 r Z q =>
  ⟨iTup Y.K (wE Y e), fun a => by
    have h := pi_tup (tg := tg) (wE_ok (e := e) a)
    rw [Y.hK a] at h
    exact h, h U h1 r _ fun v T l1 r1 p1 => by
    obtain ⟨a, vs, e1, e2, e3⟩ := Is.tup p1
    subst e1
    refine ⟨a, rfl, ⟨vs, sqT_sub T e2⟩, q _ T l1 r1 ⟨fun T' hf => ⟨vs, sqT_sub T' (Evl.ex_t hf e2), by rw [e3.len]; exact Nat.le_refl _⟩, fun k hk T' hf => ?_⟩⟩
    have sq : SqT Y.K T'.H a vs := sqT_sub T' (Evl.ex_t hf e2)
    have hk' : k < vs.length := by rw [e3.len]; exact hk
    refine ⟨⟨vs, vs[k], sq, by simp [hk']⟩, fun x H' ⟨hH, hx⟩ => ⟨T', hH.symm, Le.refl T', ?_⟩⟩
    obtain ⟨d, h1, h2⟩ := e3.get (hx vs sq)
    exact ⟨d, h1, h2.mono hf⟩⟩
/-- ranges -/
def itR (lo : Int) : Nat → V → Wd → Prop := fun k x _ => x = .int (lo + (k : Int))
theorem ei_range1 {q : Int} (B : BI Y "range" (.type "range")) (ha : E m Y σ W i a (.d (.int q)) j) (h1 : -(2 ^ 62) ≤ q ∧ q < 2 ^ 62) (hs : ∀ c, starEach [a] (Y.X c).env = [(false, eval a (Y.X c).env)] := by intro _; rfl) :
    EI m Y σ W i tg (.Call (.Name "range" p) [a] [] pos) q.toNat (itR 0) j := fun U l r Z k =>
  ⟨iRng1 (wA Y [a]), fun c => pi_range1 (B.g.gl c) (by rw [Y.hmg]; exact B.m) (wA_ok c) (hs c), ea_cons ha ea_nil (fun c => by rw [hs c]; rfl) U l r _ fun vs T l1 r1 p1 => by
    obtain ⟨v, rfl, hv⟩ := p1.inv1
    refine ⟨q, by rw [hv.int], h1.1, h1.2, k _ T l1 r1 ⟨fun T' _ => Nat.le_refl _, fun n hn T' _ => ⟨hn, fun x H' ⟨e1, e2⟩ => ⟨T', e1.symm, Le.refl T', e2⟩⟩⟩⟩⟩
theorem ei_range2 {q w : Int} (B : BI Y "range" (.type "range")) (ha : E m Y σ W i a (.d (.int q)) j) (hb : E m Y σ W j b (.d (.int w)) k) (h1 : -(2 ^ 62) ≤ q ∧ q < 2 ^ 62 ∧ -(2 ^ 62) ≤ w ∧ w < 2 ^ 62)
    (hs : ∀ c, starEach [a, b] (Y.X c).env = [(false, eval a (Y.X c).env), (false, eval b (Y.X c).env)] := by intro _; rfl) (hs2 : ∀ c, starEach [b] (Y.X c).env = [(false, eval b (Y.X c).env)] := by intro _; rfl) :
    EI m Y σ W i tg (.Call (.Name "range" p) [a, b] [] pos) (w - q).toNat (itR q) k := fun U l r Z z =>
  ⟨iRng2 (wA Y [a, b]), fun c => pi_range2 (B.g.gl c) (by rw [Y.hmg]; exact B.m) (wA_ok c) (hs c) (hs2 c), ea_cons ha (ea_cons hb ea_nil (fun c => by rw [hs2 c]; rfl)) (fun c => by rw [hs c, hs2 c]) U l r _ fun vs T l1 r1 p1 => by
    obtain ⟨v, v', rfl, hv, hv'⟩ := p1.inv2
    refine ⟨q, w, by rw [hv.int, hv'.int], h1, z _ T l1 r1 ⟨fun T' _ => Nat.le_refl _, fun n hn T' _ => ⟨hn, fun x H' ⟨e1, e2⟩ => ⟨T', e1.symm, Le.refl T', e2⟩⟩⟩⟩⟩
def itRC (lo st : Int) : Nat → V → Wd → Prop := fun k x _ => x = .int (lo + (k : Int) * st)
theorem ei_range3 {q w g : Int} {N : Nat} {l : m.ι} (B : BI Y "range" (.type "range")) (ha : E m Y σ W i a (.d (.int q)) j) (hb : E m Y σ W j b (.d (.int w)) k) (hc : E m Y σ W k c (.d (.int g)) l) (h1 : RgC q w g N)
    (hs : ∀ t, starEach [a, b, c] (Y.X t).env = (false, eval a (Y.X t).env) :: starEach [b, c] (Y.X t).env := by intro _; rfl) (hs2 : ∀ t, starEach [b, c] (Y.X t).env = (false, eval b (Y.X t).env) :: starEach [c] (Y.X t).env := by intro _; rfl) (hs3 : ∀ t, starEach [c] (Y.X t).env = (false, eval c (Y.X t).env) :: starEach [] (Y.X t).env := by intro _; rfl)
    (hpl : ∀ t, (backTo pos (starEach [b, c] (Y.X t).env)).any (·.1) = false := by intro _; rfl) :
    EI m Y σ W i tg (.Call (.Name "range" p) [a, b, c] [] pos) N (itRC q g) l := fun U le r Z z =>
  ⟨iRng3 (wA Y [a, b, c]), fun t => pi_range3 (B.g.gl t) (by rw [Y.hmg]; exact B.m) (wA_ok t) (hs t) (hpl t), ea_cons ha (ea_cons hb (ea_cons hc ea_nil hs3) hs2) hs U le r _ fun vs T l1 r1 p1 => by
    obtain ⟨v, v', v'', rfl, hv, hv', hv''⟩ := p1.inv3
    refine ⟨q, w, g, N, by rw [hv.int, hv'.int, hv''.int], h1, z _ T l1 r1 ⟨fun T' _ => Nat.le_refl _, fun n hn T' _ => ⟨hn, fun x H' ⟨e1, e2⟩ => ⟨T', e1.symm, Le.refl T', e2⟩⟩⟩⟩⟩
/-- zip of two tuples, enumerate of a list: new pairs -/
def itP (K : PySem.W.Frag) (P : Nat → PD → PD → Prop) : Nat → V → Wd → Prop := fun k x T => ∃ (t : Addr) (v1 v2 : V) (d1 d2 : PD), x = .ref t ∧ SqT K T.F t [v1, v2] ∧ Dp K T.F v1 d1 ∧ Dp K T.F v2 d2 ∧ P k d1 d2
theorem ei_zipT {elts : List Expr} {q : Nat} {tp : Pos} {ds es : List PD} (B : BI Y "zip" (.type "zip")) (ha : E m Y σ W i a (.d (.tuple ds)) j) (hb : E m Y σ W j b (.d (.tuple es)) k)
    (hs : ∀ c, starEach [a, b] (Y.X c).env = (false, eval a (Y.X c).env) :: starEach [b] (Y.X c).env := by intro _; rfl) (hs2 : ∀ c, starEach [b] (Y.X c).env = (false, eval b (Y.X c).env) :: starEach [] (Y.X c).env := by intro _; rfl)
    (hpl : ∀ c, (backTo pos (starEach [b] (Y.X c).env)).any (·.1) = false := by intro _; rfl) :
    EI m Y σ W i (.Tuple elts q tp) (.Call (.Name "zip" p) [a, b] [] pos) (min ds.length es.length) (itP Y.K fun n d1 d2 => ds[n]? = some d1 ∧ es[n]? = some d2) k := fun U l r Z z =>
  ⟨iZipA Y.K (wA Y [a, b]), fun c => by
    have h := pi_zipA (X := Y.X c) (tpos := tp) (elts := elts) (kk := q) (p := p) (pos := pos) (B.g.gl c) (by rw [Y.hmg]; exact B.m) (wA_ok (es := [a, b]) c) (hs c) (hpl c)
    rw [Y.hK c] at h
    exact h, ea_cons ha (ea_cons hb ea_nil hs2) hs U l r _ fun vs T l1 r1 p1 => by
    obtain ⟨v, v', rfl, hv, hv'⟩ := p1.inv2
    obtain ⟨a1, vs1, rfl, e2, e3⟩ := Is.tup hv
    obtain ⟨b1, vs2, rfl, f2, f3⟩ := Is.tup hv'
    have n1 := e3.len
    have n2 := f3.len
    refine ⟨a1, b1, vs1, vs2, rfl, .inr ⟨sqT_sub T e2, sqT_sub T f2, z _ T l1 r1 ⟨fun T' hf => ⟨vs1, vs2, sqT_sub T' (Evl.ex_t hf e2), sqT_sub T' (Evl.ex_t hf f2), by omega⟩, fun n hn T' hf => ?_⟩⟩⟩
    have q1 : SqT Y.K T'.H a1 vs1 := sqT_sub T' (Evl.ex_t hf e2)
    have q2 : SqT Y.K T'.H b1 vs2 := sqT_sub T' (Evl.ex_t hf f2)
    have h1 : n < vs1.length := by omega
    have h2 : n < vs2.length := by omega
    refine ⟨⟨vs1, vs2, vs1[n], vs2[n], q1, q2, by simp [h1], by simp [h2]⟩, fun x H' ⟨t, x1, x2, ex, ht, hH, g1, g2⟩ => ?_⟩
    subst ex hH
    obtain ⟨d1, w1, w2⟩ := e3.get (g1 vs1 q1)
    obtain ⟨d2, w3, w4⟩ := f3.get (g2 vs2 q2)
    have up := upd_none (o := .tup [x1, x2]) (T'.fnone ht)
    exact ⟨T'.frz t _ ht, rfl, Le.frz ht, t, x1, x2, d1, d2, rfl, SqT.of upd_same, (w2.mono hf).mono up, (w4.mono hf).mono up, w1, w3⟩⟩
theorem ei_enumL {elts : List Expr} {q : Nat} {tp : Pos} (B : BI Y "enumerate" (.type "enumerate")) (ha : E m Y σ W i a (.d (.list ds)) j)
    (hs : ∀ c, starEach [a] (Y.X c).env = [(false, eval a (Y.X c).env)] := by intro _; rfl) :
    EI m Y σ W i (.Tuple elts q tp) (.Call (.Name "enumerate" p) [a] [] pos) ds.length (itP Y.K fun n d1 d2 => d1 = .int (n : Int) ∧ ds[n]? = some d2) j := fun U l r Z z =>
  ⟨iEnum Y.K (wA Y [a]), fun c => by
    have h := pi_enum (X := Y.X c) (tpos := tp) (elts := elts) (kk := q) (p := p) (pos := pos) (B.g.gl c) (by rw [Y.hmg]; exact B.m) (wA_ok (es := [a]) c) (hs c)
    rw [Y.hK c] at h
    exact h, ea_cons ha ea_nil (fun c => by rw [hs c]; rfl) U l r _ fun vs T l1 r1 p1 => by
    obtain ⟨v, rfl, hv⟩ := p1.inv1
    obtain ⟨a1, vs1, rfl, e2, e3⟩ := Is.lst hv
    refine ⟨a1, vs1, rfl, sqL_sub T e2, z _ T l1 r1 ⟨fun T' hf => ⟨vs1, sqL_sub T' (Evl.ex_l hf e2), by rw [e3.len]; exact Nat.le_refl _⟩, fun n hn T' hf => ?_⟩⟩
    have q1 : SqL Y.K T'.H a1 vs1 := sqL_sub T' (Evl.ex_l hf e2)
    have h1 : n < vs1.length := by rw [e3.len]; exact hn
    refine ⟨⟨vs1, vs1[n], q1, by simp [h1]⟩, fun x H' ⟨t, x2, ex, ht, hH, g2⟩ => ?_⟩
    subst ex hH
    obtain ⟨d2, w3, w4⟩ := e3.get (g2 vs1 q1)
    have up := upd_none (o := .tup [.int (n : Nat), x2]) (T'.fnone ht)
    exact ⟨T'.frz t _ ht, rfl, Le.frz ht, t, _, x2, _, d2, rfl, SqT.of upd_same, Dp.int _, (w4.mono hf).mono up, rfl, w3⟩⟩

/-! ### comprehensions -/
def Fam.blk (Y : Fam) (scope : Scope) : Fam where
  α := Y.α × Shared × Hp × Addr × List (Str × Addr) × List Addr
  X := fun q => (Y.X q.1).blk q.2.1 q.2.2.1 scope (compEnvC scope q.2.2.2.2.1 q.2.2.2.1 (Y.X q.1).env) q.2.2.2.2.2
  P := Y.P
  w := Y.w
  K := Y.K
  mg := Y.mg
  base := Y.base
  N := Y.N
  sc := relS scope Y.sc
  k := Y.k
  hP := fun q => Y.hP q.1
  hw := fun q => Y.hw q.1
  hK := fun q => Y.hK q.1
  hmg := fun q => Y.hmg q.1
  hbase := fun q => Y.hbase q.1
  hN := fun q => Y.hN q.1
  hsc := fun q => by
    show relS scope (Y.X q.1).env.scope = relS scope Y.sc
    rw [Y.hsc]
  hc := fun q => Y.hc q.1
  hr := fun q => Y.hr q.1
  nd := Y.nd
/-- the tests of a comprehension -/
def ETs (m : Mode) (Y : Fam) (σ : L2.St) (W : Wd) (i : m.ι) (es : List Expr) (b : Bool) (j : m.ι) : Prop :=
  ∀ U, Le m.M W U → m.R i U → ∀ Q : Bool → Hp → Prop, (∀ T, Le m.M U T → m.R j T → Q b T.H) → wTs Y es σ U.H Q
theorem ets_nil : ETs m Y σ W i [] true i := fun U _ r Q q => ⟨tYes, fun _ => pts_nil, q U (Le.refl U) r⟩
theorem ets_one (h : ET m Y σ W i c u j) : ETs m Y σ W i [c] u j := fun U h1 r Q q => ⟨_, fun a => pts_one (wT_ok a), h U h1 r _ q⟩
/-- a turn: the target takes the item, the tests, the element -/
def Turn1 (m : Mode) (B : Fam) (tg elt : Expr) (ifs : List Expr) (vs : List Nat) (σ : L2.St) (x : V) (T : Wd) (j : m.ι) (b : Bool) (d : PD) : Prop :=
  ∃ σ2 : L2.St, (∀ Q : L2.St → Hp → Prop, Q σ2 T.H → wG B tg x (wipe σ vs) T.H Q) ∧ wipe σ2 vs = wipe σ vs ∧ ETs m B σ2 T j ifs b j ∧ (b = true → E m B σ2 T j elt (.d d) j)
theorem lc_run {α : Type} {elt : Expr} {ifs : List Expr} {scope : Scope} {vs : List Nat} {it : Nat → V → Wd → Prop} (xs : List α) (pr : α → Bool) (g : α → PD) (hi : EI m Y σ W i tg iter xs.length it j) (hl : xs.length ≤ 100000)
    (ht : ∀ T0, Le m.M W T0 → ∀ k a, xs[k]? = some a → ∀ x T, Fl T0 T → m.R j T → it k x T → Turn1 m (Y.blk scope) tg elt ifs vs σ x T j (pr a) (g a)) :
    ∀ U, Le m.M W U → m.R i U → ∀ Q : VK, (∀ v T, Le m.M U T → m.R j T → (∃ p us, v = V.ref p ∧ U.H p = none ∧ T.F p = none ∧ T.H p = some (.lst us) ∧ DpAll Y.K T.F us ((xs.filter pr).map g)) → Q v T.H) →
      tLc (wI Y tg iter) (wG (Y.blk scope) tg) (wTs (Y.blk scope) ifs) (wE (Y.blk scope) elt) vs σ U.H Q := by
  intro U h1 r Q q
  refine hi U h1 r _ fun J T0 l0 r0 ok => ?_
  intro C hC
  have l00 : Le M0 T0 (T0.own C (.lst []) hC) := Le.own hC
  refine ⟨fun n q H => q = xs.length - n ∧ n ≤ xs.length ∧ ∃ T : Wd, T.H = H ∧ Le m.M T0 T ∧ m.R j T ∧ T.F C = none ∧ ∃ us, T.H C = some (.lst us) ∧ DpAll Y.K T.F us (((xs.take n).filter pr).map g), ⟨xs.length, by simp, Nat.zero_le _, T0.own C (.lst []) hC, rfl, Le.own hC, m.le0 r0 l00, T0.fnone hC, [], upd_same, by simpa using DpAll.nil⟩, ?_⟩
  rintro n q' H ⟨rfl, hn, T, rfl, l1, r1, f1, us, hu, du⟩
  by_cases hlt : n < xs.length
  · refine .inr ⟨(ok.2 n hlt T l1.fl).1, fun H' => ∃ T' : Wd, T'.H = H' ∧ Le m.M T0 T' ∧ m.R j T' ∧ T'.F C = none ∧ ∃ us, T'.H C = some (.lst us) ∧ DpAll Y.K T'.F us (((xs.take (n + 1)).filter pr).map g), fun H' hH => ⟨xs.length - (n + 1), by omega, rfl, hlt, hH⟩, fun x H' hy => ?_⟩
    obtain ⟨T1, rfl, l2, hit⟩ := (ok.2 n hlt T l1.fl).2 x H' hy
    have hCm : ¬ m.M C := fun z => (m.al j T0 r0 C z).1 hC
    have c1 : T1.H C = some (.lst us) := l2.h C _ (fun z => z) hu
    have f2 : T1.F C = none := l2.n C f1 (by rw [hu]; exact fun z => nomatch z)
    have r2 : m.R j T1 := m.le0 r1 l2
    have ha : xs[n]? = some xs[n] := by simp [hlt]
    obtain ⟨σ2, tg1, tg2, tg3, tg4⟩ := ht T0 (h1.trans l0) n xs[n] ha x T1 (l1.fl.trans l2.fl) r2 hit
    have tk : xs.take (n + 1) = xs.take n ++ [xs[n]] := by
      rw [List.take_add_one, ha] <;> rfl
    refine tg1 _ ⟨tg2, ?_⟩
    refine tg3 T1 (Le.refl T1) r2 _ fun T2 l3 r3 => ?_
    have c2 : T2.H C = some (.lst us) := l3.h C _ hCm c1
    have f3 : T2.F C = none := l3.n C f2 (by rw [c1]; exact fun z => nomatch z)
    have l4 : Le m.M T0 T2 := (l1.trans l2.of0).trans l3
    cases hb : pr xs[n] with
    | false =>
      show ∃ T' : Wd, T'.H = T2.H ∧ Le m.M T0 T' ∧ m.R j T' ∧ T'.F C = none ∧ ∃ us, T'.H C = some (.lst us) ∧ DpAll Y.K T'.F us (((xs.take (n + 1)).filter pr).map g)
      refine ⟨T2, rfl, l4, r3, f3, us, c2, ?_⟩
      rw [tk, List.filter_append, List.filter_cons, hb]
      simpa using (du.mono l2.f).mono l3.f
    | true =>
      show wE (Y.blk scope) elt σ2 T2.H fun y H4 => ∃ acc, H4 C = some (.lst acc) ∧ acc.length < sizeLine ∧ ∃ T' : Wd, T'.H = upd H4 C (.lst (acc ++ [y])) ∧ Le m.M T0 T' ∧ m.R j T' ∧ T'.F C = none ∧ ∃ us, T'.H C = some (.lst us) ∧ DpAll Y.K T'.F us (((xs.take (n + 1)).filter pr).map g)
      refine tg4 hb T2 l3 r3 _ fun y T3 l5 r4 hy => ?_
      have c3 : T3.H C = some (.lst us) := l5.h C _ hCm c2
      have f4 : T3.F C = none := l5.n C f3 (by rw [c2]; exact fun z => nomatch z)
      have dl : us.length ≤ n := by
        rw [du.len, List.length_map]
        exact Nat.le_trans (List.length_filter_le _ _) (by rw [List.length_take]; omega)
      refine ⟨us, c3, Evl.sz_lt (by omega), T3.put C _ f4, rfl, ?_, m.pt j T3 C _ _ f4 r4 hCm c3 rfl, f4, us ++ [y], upd_same, ?_⟩
      · have l6 : Le m.M T0 T3 := l4.trans l5
        exact ⟨l6.f, fun a o hm e => by
          show upd T3.H C _ a = some o
          rw [upd_ne (ne_of_none e hC)]
          exact l6.h a o hm e, l6.n, fun a ka => upd_some_ne (l6.k a ka)⟩
      · rw [tk, List.filter_append, List.filter_cons, hb, List.map_append]
        exact (((du.mono l2.f).mono l3.f).mono l5.f).app (by simpa using DpAll.one (show Dp Y.K T3.F y (g xs[n]) from hy))
  · have e : n = xs.length := by omega
    subst e
    refine .inl ⟨ok.1 T l1.fl, q (.ref C) T (l0.trans l1) r1 ⟨C, us, rfl, l0.back hC, f1, hu, ?_⟩⟩
    rw [List.take_length] at du
    exact du
theorem el_lc {α : Type} {elt : Expr} {ifs : List Expr} {scope : Scope} {own : List (Str × Nat)} {it : Nat → V → Wd → Prop} (xs : List α) (pr : α → Bool) (g : α → PD) (hi : EI m Y σ W i tg iter xs.length it j) (hl : xs.length ≤ 100000) (ok : BlkOk Y.N Y.sc scope own)
    (ht : ∀ T0, Le m.M W T0 → ∀ k a, xs[k]? = some a → ∀ x T, Fl T0 T → m.R j T → it k x T → Turn1 m (Y.blk scope) tg elt ifs (own.map (·.2)) σ x T j (pr a) (g a))
    (hs : ∀ a, ∀ x, foldedSetIterable iter (Y.X a).env x = pure x := by intro _ _; rfl) :
    EL m Y σ W i (.ListComp elt [⟨tg, iter, ifs, 0⟩] scope pos) ((xs.filter pr).map g) j := fun U h1 r Q q =>
  ⟨tLc (wI Y tg iter) (wG (Y.blk scope) tg) (wTs (Y.blk scope) ifs) (wE (Y.blk scope) elt) (own.map (·.2)), fun a => pe_lc (Y.hc a) (by rw [Y.hN]; exact Y.nd) (wI_ok a) (by rw [Y.hN, Y.hsc]; exact ok) (fun s H C cl fp => wG_ok (Y := Y.blk scope) (a, s, H, C, cl, fp)) (fun s H C cl fp => wTs_ok (Y := Y.blk scope) (a, s, H, C, cl, fp)) (fun s H C cl fp => wE_ok (Y := Y.blk scope) (a, s, H, C, cl, fp)) (hs a),
    lc_run xs pr g hi hl ht U h1 r Q q⟩
/-- name = [..], the name a plain local -/
theorem s_setLc {α : Type} {elt : Expr} {ifs : List Expr} {scope : Scope} {own : List (Str × Nat)} {it : Nat → V → Wd → Prop} {lp : Pos} (xs : List α) (pr : α → Bool) (g : α → PD) (hi : EI m Y σ W i tg iter xs.length it j) (hl : xs.length ≤ 100000) (ok : BlkOk Y.N Y.sc scope own)
    (ht : ∀ T0, Le m.M W T0 → ∀ k a, xs[k]? = some a → ∀ x T, Fl T0 T → m.R j T → it k x T → Turn1 m (Y.blk scope) tg elt ifs (own.map (·.2)) σ x T j (pr a) (g a)) (r : m.R i W)
    (hn : Y.N[n]? = some s) (hx : Y.sc.names.lookup s = some .local)
    (k : ∀ q T us, Le m.M W T → m.R j T → W.H q = none → T.F q = none → T.H q = some (.lst us) → DpAll Y.K T.F us ((xs.filter pr).map g) → wSs Y rest D (σ.set n (some (.ref q))) T.H)
    (hsw : ∀ a, swapsWith (.ListComp elt [⟨tg, iter, ifs, 0⟩] scope lp) (some (.Name s p')) p.line (Y.X a).env = pure true := by intro _; exact sw_true rfl rfl rfl (by decide +kernel))
    (hs : ∀ a, ∀ x, foldedSetIterable iter (Y.X a).env x = pure x := by intro _ _; rfl) :
    wSs Y (.Assign [.Name s p'] (.ListComp elt [⟨tg, iter, ifs, 0⟩] scope lp) p :: rest) D σ W.H :=
  ⟨_, fun a => pss_cons (ps_setLc (i := n) (own := own) (Y.hc a) (by rw [Y.hN]; exact Y.nd) (by rw [Y.hN]; exact hn) (by rw [Y.hsc]; exact hx) (hsw a) (wI_ok a) (by rw [Y.hN, Y.hsc]; exact ok) (fun s H C cl fp => wG_ok (Y := Y.blk scope) (a, s, H, C, cl, fp)) (fun s H C cl fp => wTs_ok (Y := Y.blk scope) (a, s, H, C, cl, fp)) (fun s H C cl fp => wE_ok (Y := Y.blk scope) (a, s, H, C, cl, fp)) (hs a)) (wSs_ok a),
    lc_run (vs := own.map (·.2)) xs pr g hi hl ht W (Le.refl W) r (fun x H1 => wSs Y rest D (σ.set n (some x)) H1) fun v T l1 r1 ⟨q, us, e1, e2, e3, e4, e5⟩ => by
      subst e1
      exact k q T us l1 r1 e2 e3 e4 e5⟩

/-! ### loops -/
/-- for: Inv by the walked thing's world, the turn -/
theorem s_for {it : Nat → V → Wd → Prop} (Inv : Wd → Nat → L2.St → Wd → m.ι → Prop) (hi : EI m Y σ W i tg iter n it j) (r : m.R i W) (h0 : ∀ T0, Le m.M W T0 → m.R j T0 → Inv T0 0 σ T0 j)
    (hs : ∀ T0, Le m.M W T0 → ∀ k σ' T c, k < n → Fl T0 T → m.R c T → Inv T0 k σ' T c → ∀ x T', Le M0 T T' → m.R c T' → it k x T' →
      wG Y tg x σ' T'.H fun σ2 H2 => wSs Y body { D with nx := fun σ3 H3 => ∃ V c', V.H = H3 ∧ Fl T0 V ∧ m.R c' V ∧ Inv T0 (k + 1) σ3 V c', ct := fun σ3 H3 => ∃ V c', V.H = H3 ∧ Fl T0 V ∧ m.R c' V ∧ Inv T0 (k + 1) σ3 V c', bk := fun σ3 H3 => wSs Y rest D σ3 H3 } σ2 H2)
    (hd : ∀ T0, Le m.M W T0 → ∀ σ' T c, Fl T0 T → m.R c T → Inv T0 n σ' T c → wSs Y rest D σ' T.H) (hp : ∀ a, PassesOwn (model (Y.X a).prog (Y.X a).w) (Y.X a).A (Y.X a).env (Y.X a).xe := by intro _; exact PassesOwn.never)
    (hss : ∀ a, ∀ x, foldedSetIterable iter (Y.X a).env x = pure x := by intro _ _; rfl) : wSs Y (.For tg iter body [] p :: rest) D σ W.H :=
  ⟨_, fun a => pss_cons (ps_for (hp a) (Y.hc a) (wI_ok a) (wG_ok a) (wSs_ok a) (hss a)) (wSs_ok a), hi W (Le.refl W) r _ fun J T0 l0 r0 ok => by
    refine ⟨fun k q σ' H' => q = n - k ∧ k ≤ n ∧ ∃ T c, T.H = H' ∧ Fl T0 T ∧ m.R c T ∧ Inv T0 k σ' T c, ⟨n, by simp, Nat.zero_le _, T0, j, rfl, Fl.refl T0, r0, h0 T0 l0 r0⟩, ?_⟩
    rintro k q σ' H' ⟨rfl, hk, T, c, rfl, f1, r1, inv⟩
    by_cases hlt : k < n
    · refine .inr ⟨(ok.2 k hlt T f1).1, fun σ3 H3 => ∃ V c', V.H = H3 ∧ Fl T0 V ∧ m.R c' V ∧ Inv T0 (k + 1) σ3 V c', fun σ3 H3 h => ⟨n - (k + 1), by omega, rfl, hlt, h⟩, fun x H2 hy => ?_⟩
      obtain ⟨T', rfl, l2, hit⟩ := (ok.2 k hlt T f1).2 x H2 hy
      exact hs T0 l0 k σ' T c hlt f1 r1 inv x T' l2 (m.le0 r1 l2) hit
    · have e : k = n := by omega
      subst e
      exact .inl ⟨ok.1 T f1, hd T0 l0 σ' T c f1 r1 inv⟩⟩
/-- while: Inv with a measure -/
theorem s_while {te : Expr} (Inv : Nat → L2.St → Wd → m.ι → Prop) (q0 : Nat) (h0 : Inv q0 σ W i) (r : m.R i W)
    (hs : ∀ q σ' T c, m.R c T → Fl W T → Inv q σ' T c → ∃ b c2, ET m Y σ' T c te b c2 ∧
      (b = true → ∀ T2, Le m.M T T2 → m.R c2 T2 → wSs Y body { D with nx := fun σ3 H3 => ∃ q' V c', q' < q ∧ V.H = H3 ∧ Fl W V ∧ m.R c' V ∧ Inv q' σ3 V c', ct := fun σ3 H3 => ∃ q' V c', q' < q ∧ V.H = H3 ∧ Fl W V ∧ m.R c' V ∧ Inv q' σ3 V c', bk := fun σ3 H3 => wSs Y rest D σ3 H3 } σ' T2.H) ∧
      (b = false → ∀ T2, Le m.M T T2 → m.R c2 T2 → wSs Y rest D σ' T2.H)) (hp : ∀ a, PassesOwn (model (Y.X a).prog (Y.X a).w) (Y.X a).A (Y.X a).env (Y.X a).xe := by intro _; exact PassesOwn.never) : wSs Y (.While te body [] p :: rest) D σ W.H :=
  ⟨_, fun a => pss_cons (ps_while (hp a) (wT_ok a) (wSs_ok a)) (wSs_ok a), by
    refine ⟨fun q σ' H' => ∃ T c, T.H = H' ∧ Fl W T ∧ m.R c T ∧ Inv q σ' T c, ⟨q0, W, i, rfl, Fl.refl W, r, h0⟩, ?_⟩
    rintro q σ' H' ⟨T, c, rfl, f1, r1, inv⟩
    obtain ⟨b, c2, ht, k1, k2⟩ := hs q σ' T c r1 f1 inv
    refine ht T (Le.refl T) r1 _ fun T2 l2 r2 => ?_
    cases b with
    | true => exact ⟨fun σ3 H3 => ∃ q' V c', q' < q ∧ V.H = H3 ∧ Fl W V ∧ m.R c' V ∧ Inv q' σ3 V c', fun σ3 H3 ⟨q', V, c', h1, h2, h3, h4, h5⟩ => ⟨q', h1, V, c', h2, h3, h4, h5⟩, k1 rfl T2 l2 r2⟩
    | false => exact k2 rfl T2 l2 r2⟩
end
end Pv
set_option Elab.async false
set_option linter.all false
set_option maxRecDepth 100000
set_option maxHeartbeats 2000000
namespace Pv
open PySem PySem.Spec PyProof.Rows L2
/-! ### lists and dicts that a def owns and changes -/
def OwnL (K : PySem.W.Frag) (W : Wd) (l : Addr) (ds : List PD) : Prop := W.F l = none ∧ ∃ vs, W.H l = some (.lst vs) ∧ DpAll K W.F vs ds
def OwnD (K : PySem.W.Frag) (W : Wd) (l : Addr) (kvs : List (Key × PD)) : Prop := W.F l = none ∧ ∃ vs, W.H l = some (.dK vs) ∧ KVD K W.F vs kvs
theorem OwnL.le {K : PySem.W.Frag} {M : Addr → Prop} {W T : Wd} {l : Addr} {ds : List PD} (h : OwnL K W l ds) (a : Le M W T) (hm : ¬ M l) : OwnL K T l ds := by
  obtain ⟨h1, vs, h2, h3⟩ := h
  exact ⟨a.n l h1 (by rw [h2]; exact fun z => nomatch z), vs, a.h l _ hm h2, h3.mono a.f⟩
theorem OwnD.le {K : PySem.W.Frag} {M : Addr → Prop} {W T : Wd} {l : Addr} {kvs : List (Key × PD)} (h : OwnD K W l kvs) (a : Le M W T) (hm : ¬ M l) : OwnD K T l kvs := by
  obtain ⟨h1, vs, h2, h3⟩ := h
  exact ⟨a.n l h1 (by rw [h2]; exact fun z => nomatch z), vs, a.h l _ hm h2, h3.mono a.f⟩
def MX (M : Addr → Prop) (l : Addr) : Addr → Prop := fun a => M a ∨ a = l
theorem Le.mx {M : Addr → Prop} {W T : Wd} (h : Le M W T) (l : Addr) : Le (MX M l) W T := h.mono fun _ z => .inl z
theorem Le.putX {M : Addr → Prop} {W : Wd} {l : Addr} {o : HO} (h : W.F l = none) : Le (MX M l) W (W.put l o h) := Le.put h (.inr rfl)
/-- the dict's value at a key -/
def valD (kvs : List (Key × PD)) (k : Key) : Option PD := (kvs.find? fun kv => decide (kv.1 = k)).map (·.2)
def putD (kvs : List (Key × PD)) (k : Key) (d : PD) : List (Key × PD) := if (kvs.any fun kv => decide (kv.1 = k)) then kvs.map fun kv => if kv.1 = k then (kv.1, d) else kv else kvs ++ [(k, d)]
theorem KVD.any {K : PySem.W.Frag} {F : Hp} {k : Key} : ∀ {vs : List (Key × V)} {kvs : List (Key × PD)}, KVD K F vs kvs → (vs.any fun kv => decide (kv.1 = k)) = (kvs.any fun kv => decide (kv.1 = k))
  | _, _, .nil => rfl
  | _, _, .cons ⟨a, _⟩ t => by
    rw [List.any_cons, List.any_cons, KVD.any t, a]
theorem KVD.val {K : PySem.W.Frag} {F : Hp} {k : Key} : ∀ {vs : List (Key × V)} {kvs : List (Key × PD)}, KVD K F vs kvs → (valV vs k = none ∧ valD kvs k = none) ∨ ∃ v d, valV vs k = some v ∧ valD kvs k = some d ∧ Dp K F v d
  | _, _, .nil => .inl ⟨rfl, rfl⟩
  | p :: _, q :: _, .cons ⟨a, b⟩ t => by
    by_cases h : q.1 = k
    · exact .inr ⟨p.2, q.2, valV_pos (a.trans h), by simp [valD, List.find?_cons, h], b⟩
    · have h' : ¬ p.1 = k := fun z => h (a.symm.trans z)
      rw [valV_neg h']
      have e : ∀ r : List (Key × PD), valD (q :: r) k = valD r k := fun r => by simp [valD, List.find?_cons, h]
      rw [e]
      exact KVD.val t
theorem KVD.app {K : PySem.W.Frag} {F : Hp} : ∀ {vs us : List (Key × V)} {kvs lvs : List (Key × PD)}, KVD K F vs kvs → KVD K F us lvs → KVD K F (vs ++ us) (kvs ++ lvs)
  | _, _, _, _, .nil, h => h
  | _, _, _, _, .cons a t, h => .cons a (KVD.app t h)
theorem KVD.repl {K : PySem.W.Frag} {F : Hp} {k : Key} {v : V} {d : PD} (hd : Dp K F v d) : ∀ {vs : List (Key × V)} {kvs : List (Key × PD)}, KVD K F vs kvs → KVD K F (vs.map fun kv => if kv.1 = k then (kv.1, v) else kv) (kvs.map fun kv => if kv.1 = k then (kv.1, d) else kv)
  | _, _, .nil => .nil
  | p :: _, q :: _, .cons ⟨a, b⟩ t => by
    rw [List.map_cons, List.map_cons]
    refine .cons ?_ (KVD.repl hd t)
    by_cases h : q.1 = k
    · rw [if_pos h, if_pos (a.trans h)]
      exact ⟨a, hd⟩
    · rw [if_neg h, if_neg fun z => h (a.symm.trans z)]
      exact ⟨a, b⟩
theorem KVD.put {K : PySem.W.Frag} {F : Hp} {k : Key} {v : V} {d : PD} {vs : List (Key × V)} {kvs : List (Key × PD)} (h : KVD K F vs kvs) (hd : Dp K F v d) : KVD K F (putK vs k v) (putD kvs k d) := by
  unfold putK putD
  rw [h.any (k := k)]
  split
  · exact h.repl hd
  · exact h.app (.cons ⟨rfl, hd⟩ .nil)
theorem KVD.len {K : PySem.W.Frag} {F : Hp} {vs : List (Key × V)} {kvs : List (Key × PD)} (h : KVD K F vs kvs) : vs.length = kvs.length := Paired.length h
theorem KVD.keys {K : PySem.W.Frag} {F : Hp} : ∀ {vs : List (Key × V)} {kvs : List (Key × PD)}, KVD K F vs kvs → vs.map (·.1) = kvs.map (·.1)
  | _, _, .nil => rfl
  | _, _, .cons ⟨a, _⟩ t => by rw [List.map_cons, List.map_cons, KVD.keys t, a]
section
variable {m : Mode} {Y : Fam} {σ : L2.St} {W W' : Wd} {i j k l : m.ι} {e a b c tg iter key : Expr} {es : List Expr} {rest body : List Stmt} {pos p p' ap cp : Pos} {x y z : Sv} {d d' : PD} {ds : List PD} {kvs : List (Key × PD)} {u v : Bool} {D : Ends} {s : Str} {n : Nat} {q : Addr}
/-- a name whose value is known -/
theorem e_at {w : V} (hN : Y.N[n]? = some s) (hv : Vis Y.sc s) (hs : σ[n]? = some (some w)) (hd : (s == ("__debug__" : Str)) = false := by decide) (hcd : (s == ("__classdict__" : Str)) = false := by decide) :
    EG m Y σ W i (.Name s pos) (fun _ v _ => v = w) i := fun U h1 r Q k => ⟨tVar n, fun a => pe_var (by rw [Y.hN]; exact hN) (by rw [Y.hsc]; exact hv) hd hcd, w, hs, k w U (Le.refl U) r rfl⟩
/-- an expression whose value is a list that may be read now -/
def ERl (m : Mode) (Y : Fam) (σ : L2.St) (W : Wd) (i : m.ι) (e : Expr) (ds : List PD) (j : m.ι) : Prop :=
  EG m Y σ W i e (fun _ v T => ∃ a vs, v = V.ref a ∧ (∀ T', Le m.M T T' → SqL Y.K T'.H a vs) ∧ DpAll Y.K T.F vs ds) j
theorem E.rl (h : E m Y σ W i e (.d (.list ds)) j) : ERl m Y σ W i e ds j := EG.imp h fun U v T _ _ _ _ q => by
  obtain ⟨a, vs, e1, e2, e3⟩ := Is.lst q
  exact ⟨a, vs, e1, fun T' l => sqL_sub T' (Evl.ex_l l.f e2), e3⟩
theorem EL.rl (h : EL m Y σ W i e ds j) : ERl m Y σ W i e ds j := EG.imp h fun U v T _ r _ _ ⟨p, vs, e1, e2, _, e4, e5⟩ => ⟨p, vs, e1, fun T' l => SqL.of (l.h p _ (m.nm r e2) e4), e5⟩
theorem erl_own (hN : Y.N[n]? = some s) (hv : Vis Y.sc s) (hs : σ[n]? = some (some (.ref q))) (ho : OwnL Y.K W q ds) (hm : ¬ m.M q) (hd : (s == ("__debug__" : Str)) = false := by decide) (hcd : (s == ("__classdict__" : Str)) = false := by decide) :
    ERl m Y σ W i (.Name s pos) ds i := EG.imp (e_at hN hv hs hd hcd) fun U v T h1 _ h2 _ e => by
  obtain ⟨_, vs, e2, e3⟩ := ho.le (h1.trans h2) hm
  exact ⟨q, vs, e, fun T' l => SqL.of (l.h q _ hm e2), e3⟩
def ERd (m : Mode) (Y : Fam) (σ : L2.St) (W : Wd) (i : m.ι) (e : Expr) (kvs : List (Key × PD)) (j : m.ι) : Prop :=
  EG m Y σ W i e (fun _ v T => ∃ a vs, v = V.ref a ∧ (∀ T', Le m.M T T' → T'.H a = some (.dK vs)) ∧ KVD Y.K T.F vs kvs) j
theorem E.rd (h : E m Y σ W i e (.dk kvs) j) : ERd m Y σ W i e kvs j := EG.imp h fun U v T _ _ _ _ ⟨a, vs, e1, e2, e3⟩ => ⟨a, vs, e1, fun T' l => T'.sub _ _ (l.f _ _ e2), e3⟩
theorem erd_own (hN : Y.N[n]? = some s) (hv : Vis Y.sc s) (hs : σ[n]? = some (some (.ref q))) (ho : OwnD Y.K W q kvs) (hm : ¬ m.M q) (hd : (s == ("__debug__" : Str)) = false := by decide) (hcd : (s == ("__classdict__" : Str)) = false := by decide) :
    ERd m Y σ W i (.Name s pos) kvs i := EG.imp (e_at hN hv hs hd hcd) fun U v T h1 _ h2 _ e => by
  obtain ⟨_, vs, e2, e3⟩ := ho.le (h1.trans h2) hm
  exact ⟨q, vs, e, fun T' l => l.h q _ hm e2, e3⟩
theorem erl_le (h : Le m.M W W') (q : ERl m Y σ W i e ds j) : ERl m Y σ W' i e ds j := EG.le h q
/-! ### dicts: in, item, store -/
theorem Fam.units1 (Y : Fam) (a : Y.α) : (Y.X a).A.units + 1 < cLine := hu_of (Y.hr a).r
theorem c_din {g : Int} (hk : E m Y σ W i key (.d (.int g)) j) (hd : ERd m Y σ W j b kvs k) (hm : behindInMarks .In b = false := by rfl) : EC m Y σ W i (.Compare key [.In] [b] pos) (valD kvs (.inl g)).isSome k := fun U l r Q z =>
  ⟨_, fun a => cmpC (pc_din (Y.units1 a) (wE_ok a) (wE_ok a)) hm, hk U l r _ fun v T l1 r1 p1 => hd T (l.trans l1) r1 _ fun v2 T2 l2 r2 ⟨q, vs, e1, e2, e3⟩ => by
    rw [p1.int]
    refine ⟨q, valV vs (.inl g), e1, DGet.k (k := Sum.inl g) (e2 T2 (Le.refl T2)), ?_⟩
    have hb : (valV vs (.inl g)).isSome = (valD kvs (.inl g)).isSome := by
      rcases e3.val (k := .inl g) with ⟨h1, h2⟩ | ⟨v, d, h1, h2, _⟩ <;> rw [h1, h2] <;> rfl
    rw [hb]
    exact z _ T2 (l1.trans l2) r2 (Dp.bl _)⟩
theorem c_dnotin {g : Int} (hk : E m Y σ W i key (.d (.int g)) j) (hd : ERd m Y σ W j b kvs k) (hm : behindInMarks .NotIn b = false := by rfl) : EC m Y σ W i (.Compare key [.NotIn] [b] pos) (!(valD kvs (.inl g)).isSome) k := fun U l r Q z =>
  ⟨_, fun a => cmpC (pc_dnotin (Y.units1 a) (wE_ok a) (wE_ok a)) hm, hk U l r _ fun v T l1 r1 p1 => hd T (l.trans l1) r1 _ fun v2 T2 l2 r2 ⟨q, vs, e1, e2, e3⟩ => by
    rw [p1.int]
    refine ⟨q, valV vs (.inl g), e1, DGet.k (k := Sum.inl g) (e2 T2 (Le.refl T2)), ?_⟩
    have hb : (valV vs (.inl g)).isSome = (valD kvs (.inl g)).isSome := by
      rcases e3.val (k := .inl g) with ⟨h1, h2⟩ | ⟨v, d, h1, h2, _⟩ <;> rw [h1, h2] <;> rfl
    rw [hb]
    exact z _ T2 (l1.trans l2) r2 (Dp.bl _)⟩
theorem e_dget {g : Int} (hd : ERd m Y σ W i a kvs j) (hk : E m Y σ W j key (.d (.int g)) k) (hv : valD kvs (.inl g) = some d) (hs : NoSl key := by intro _ _; rfl) : E m Y σ W i (.Subscript a key pos) (.d d) k := fun U l r Q z =>
  ⟨_, fun a => pe_dget (Y.units1 a) (wE_ok a) (wE_ok a) hs, hd U l r _ fun v T l1 r1 ⟨q, vs, e1, e2, e3⟩ => hk T (l.trans l1) r1 _ fun v2 T2 l2 r2 p2 => by
    rw [p2.int]
    rcases e3.val (k := .inl g) with ⟨h1, h2⟩ | ⟨v, d1, h1, h2, h3⟩
    · rw [hv] at h2
      cases h2
    · rw [hv] at h2
      cases h2
      refine ⟨q, v, e1, ?_, z v T2 (l1.trans l2) r2 (h3.mono l2.f)⟩
      rw [← h1]
      exact DGet.k (k := Sum.inl g) (e2 T2 l2)⟩
/-- found[key] = value, found owned -/
theorem s_dput {g : Int} {o : Expr} {value : Expr} (hv : E m Y σ W i value (.d d) j) (hd : ∀ T, Le m.M W T → EG m Y σ T j o (fun _ v _ => v = .ref q) j) (hk : ∀ T, Le m.M W T → E m Y σ T j key (.d (.int g)) j) (r : m.R i W) (ho : OwnD Y.K W q kvs) (hm : ¬ m.M q) (hz : kvs.length < 100000)
    (k : ∀ T, Le (MX m.M q) W T → m.R j T → OwnD Y.K T q (putD kvs (.inl g) d) → wSs Y rest D σ T.H)
    (hs : ∀ a, swapsWith value (some (.Subscript o key p')) p.line (Y.X a).env = pure false := by intro _; rfl) : wSs Y (.Assign [.Subscript o key p'] value p :: rest) D σ W.H :=
  ⟨_, fun a => pss_cons (ps_dput (Y.units1 a) (wE_ok a) (wE_ok a) (wE_ok a) (hs a)) (wSs_ok a), hv W (Le.refl W) r _ fun v T l1 r1 p1 => hd T l1 T (Le.refl T) r1 _ fun v2 T2 l2 r2 e2 => hk T l1 T2 l2 r2 _ fun v3 T3 l3 r3 p3 => by
    have l4 : Le m.M W T3 := (l1.trans l2).trans l3
    obtain ⟨f3, vs, h3, d3⟩ := ho.le l4 hm
    subst e2
    rw [p3.int]
    refine ⟨q, _, rfl, DPut.k (k := Sum.inl g) h3 (Evl.sz_lt (by rw [d3.len]; exact hz)), ?_⟩
    exact k (T3.put q _ f3) ((l4.mx q).trans (Le.putX f3)) (m.pt j T3 q _ _ f3 r3 hm h3 rfl) ⟨f3, _, upd_same, d3.put ((p1.mono (l2.trans l3).f))⟩⟩
/-- found.append(e), found owned -/
theorem s_append {o : Expr} (hd : EG m Y σ W i o (fun _ v _ => v = .ref q) i) (he : E m Y σ W i e (.d d) j) (r : m.R i W) (ho : OwnL Y.K W q ds) (hm : ¬ m.M q) (hz : ds.length < 100000)
    (k : ∀ T, Le (MX m.M q) W T → m.R j T → OwnL Y.K T q (ds ++ [d]) → wSs Y rest D σ T.H)
    (hbase : ∀ a, attributeBase o "append" (Y.X a).env (eval o (Y.X a).env) = eval o (Y.X a).env := by intro _; rfl)
    (hfew : ∀ a, ((backTo cp (starEach [e] (Y.X a).env)).all (fun x => !x.1) && (backToKw cp (keywordEach [] (Y.X a).env)).all (fun x => x.1.isSome) && decide ([e].length + ([] : List Keyword).length + (if ([] : List Keyword).isEmpty then 0 else 1) < 30)) = true := by intro _; rfl)
    (hline : (ap.endLine == cp.line) = true := by rfl) (hst : ∀ a, starEach [e] (Y.X a).env = (false, eval e (Y.X a).env) :: starEach [] (Y.X a).env := by intro _; rfl) (hpl : ∀ a, (backTo cp (starEach [] (Y.X a).env)).any (·.1) = false := by intro _; rfl)
    (hs : ∀ a, swapsWith (.Call (.Attribute o "append" ap) [e] [] cp) none p.line (Y.X a).env = pure false := by intro _; rfl) : wSs Y (.Expr (.Call (.Attribute o "append" ap) [e] [] cp) p :: rest) D σ W.H :=
  ⟨tSeq (tDrop (tBM Y.K "list" rAppend (wE Y o) (wA Y [e]))) (wSs Y rest), fun a => pss_cons (ps_expr (by
    have h := pe_bm (X := Y.X a) (apos := ap) (cpos := cp) PySem.F.plainAttrs_list PySem.F.slot_list_append PySem.F.type_list_append mt_append (wE_ok (e := o) a) (wA_ok (es := [e]) a) (hbase a) (hfew a) hline (hst a) (hpl a)
    rw [Y.hK a] at h
    exact h) (hs a)) (wSs_ok a), hd W (Le.refl W) r _ fun v T l1 r1 e1 => by
    obtain ⟨f1, vs1, h1, d1⟩ := ho.le l1 hm
    subst e1
    refine ⟨.inl ⟨rfl, vs1, SqL.of h1⟩, ea_cons he ea_nil hst T l1 r1 _ fun us T2 l2 r2 p2 => ?_⟩
    obtain ⟨w, rfl, hw⟩ := p2.inv1
    obtain ⟨f2, vs, h2, d2⟩ := ho.le (l1.trans l2) hm
    refine ⟨q, vs, w, rfl, rfl, h2, Evl.sz_lt (by rw [d2.len]; exact hz), ?_⟩
    exact k (T2.put q _ f2) (((l1.trans l2).mx q).trans (Le.putX f2)) (m.pt j T2 q _ _ f2 r2 hm h2 rfl) ⟨f2, _, upd_same, d2.app (.one hw)⟩⟩
/-- found.extend(new list) -/
theorem s_extend {o : Expr} {es' : List PD} (hd : EG m Y σ W i o (fun _ v _ => v = .ref q) i) (he : EL m Y σ W i e es' j) (r : m.R i W) (ho : OwnL Y.K W q ds) (hm : ¬ m.M q) (hz : ds.length + es'.length ≤ 100000)
    (k : ∀ T, Le (MX m.M q) W T → m.R j T → OwnL Y.K T q (ds ++ es') → wSs Y rest D σ T.H)
    (hbase : ∀ a, attributeBase o "extend" (Y.X a).env (eval o (Y.X a).env) = eval o (Y.X a).env := by intro _; rfl)
    (hfew : ∀ a, ((backTo cp (starEach [e] (Y.X a).env)).all (fun x => !x.1) && (backToKw cp (keywordEach [] (Y.X a).env)).all (fun x => x.1.isSome) && decide ([e].length + ([] : List Keyword).length + (if ([] : List Keyword).isEmpty then 0 else 1) < 30)) = true := by intro _; rfl)
    (hline : (ap.endLine == cp.line) = true := by rfl) (hst : ∀ a, starEach [e] (Y.X a).env = (false, eval e (Y.X a).env) :: starEach [] (Y.X a).env := by intro _; rfl) (hpl : ∀ a, (backTo cp (starEach [] (Y.X a).env)).any (·.1) = false := by intro _; rfl)
    (hs : ∀ a, swapsWith (.Call (.Attribute o "extend" ap) [e] [] cp) none p.line (Y.X a).env = pure false := by intro _; rfl) : wSs Y (.Expr (.Call (.Attribute o "extend" ap) [e] [] cp) p :: rest) D σ W.H :=
  ⟨tSeq (tDrop (tBM Y.K "list" rExtend (wE Y o) (tCons (wE Y e) tNil))) (wSs Y rest), fun a => pss_cons (ps_expr (by
    have h := pe_bm (X := Y.X a) (apos := ap) (cpos := cp) PySem.F.plainAttrs_list PySem.F.slot_list_extend PySem.F.type_list_extend mt_extend (wE_ok (e := o) a) (pa_cons (wE_ok (e := e) a) pa_nil (hst a)) (hbase a) (hfew a) hline (hst a) (hpl a)
    rw [Y.hK a] at h
    exact h) (hs a)) (wSs_ok a), hd W (Le.refl W) r _ fun v T l1 r1 e1 => by
    obtain ⟨f1, vs1, h1, d1⟩ := ho.le l1 hm
    subst e1
    refine ⟨.inl ⟨rfl, vs1, SqL.of h1⟩, he T l1 r1 _ fun w T2 l2 r2 ⟨b, us, e1, e2, e3, e4, e5⟩ => ?_⟩
    subst e1
    obtain ⟨f2, vs, h2, d2⟩ := ho.le (l1.trans l2) hm
    refine ⟨q, b, vs, us, rfl, rfl, h2, e4, Evl.sz_of (by rw [d2.len, e5.len]; exact hz), ?_⟩
    exact k (T2.put q _ f2) (((l1.trans l2).mx q).trans (Le.putX f2)) (m.pt j T2 q _ _ f2 r2 hm h2 rfl) ⟨f2, _, upd_same, d2.app e5⟩⟩
/-! ### displays of dicts -/
theorem ed_empty : ED m Y σ W i (.Dict [] [] pos) [] i := fun U _ r Q z => ⟨tDNewK, fun _ => pe_dnewK, fun p hp => z (.ref p) (U.own p _ hp) (Le.own hp) (m.le0 r (Le.own hp)) ⟨p, [], rfl, hp, U.fnone hp, upd_same, .nil⟩⟩
theorem ed_one {g : Int} {value : Expr} (hk : E m Y σ W i key (.d (.int g)) j) (hv : E m Y σ W j value (.d d) k) : ED m Y σ W i (.Dict [some key] [value] pos) [(.inl g, d)] k := fun U l r Q z =>
  ⟨tDisp [(wE Y key, wE Y value)], fun a => pe_disp (pps_cons (wE_ok a) (wE_ok a) pps_nil) (by rfl) (by rfl) (fun z => by cases z) (Nat.le_of_ble_eq_true rfl), fun p hp => by
    show wE Y key σ (upd U.H p (.dK [])) fun x H1 => wE Y value σ H1 fun y H2 => _
    have l0 : Le m.M U (U.own p (.dK []) hp) := Le.own hp
    have hpm : ¬ m.M p := m.nm r hp
    refine hk (U.own p (.dK []) hp) (l.trans l0) (m.le0 r (Le.own hp)) _ fun v1 T1 l1 r1 p1 => hv T1 ((l.trans l0).trans l1) r1 _ fun v2 T2 l2 r2 p2 => ?_
    have h2 : T2.H p = some (.dK []) := l2.h p _ hpm (l1.h p _ hpm upd_same)
    have f2 : T2.F p = none := (l1.trans l2).n p (U.fnone hp) (by show upd U.H p _ p ≠ none; rw [upd_same]; exact fun z => nomatch z)
    rw [p1.int]
    refine ⟨h2, [(.inl g, v2)], rfl, Nat.le_of_ble_eq_true rfl, ?_⟩
    have e : mergeK [] [((.inl g : Key), v2)] = [(.inl g, v2)] := rfl
    rw [e]
    refine z (.ref p) (T2.put p _ f2) ⟨((l0.trans l1).trans l2).f, fun a o hm e => ?_, ((l0.trans l1).trans l2).n, fun a ka => upd_some_ne (((l0.trans l1).trans l2).k a ka)⟩ (m.pt k T2 p _ _ f2 r2 hpm h2 rfl) ⟨p, _, rfl, hp, f2, upd_same, .cons ⟨rfl, p2⟩ .nil⟩
    show upd T2.H p _ a = some o
    rw [upd_ne (ne_of_none e hp)]
    exact ((l0.trans l1).trans l2).h a o hm e⟩
end
end Pv
set_option Elab.async false
set_option linter.all false
set_option maxRecDepth 100000
set_option maxHeartbeats 4000000
namespace Pv
open PySem PySem.Spec PyProof.Rows L2
/-! ### isinstance of data -/
def tyD : PD → String
  | .none => "NoneType"
  | .bool _ => "bool"
  | .int _ => "int"
  | .str _ => "str"
  | .list _ => "list"
  | .tuple _ => "tuple"
  | .dict _ => "dict"
def rIsD (K : PySem.W.Frag) : CRd := fun xs H Q => ∃ (x : V) (c : String) (d : PD) (b : Bool), xs = [x, .ty c] ∧ Dp K H x d ∧ kitB (tyD d) c = some b ∧ Q (.bl b) H
theorem call_isD {X : Cx} : CallR X (.builtin "isinstance") (rIsD X.K) := by
  intro pins s σ H xs us Q I r h
  obtain ⟨x, c, d, b, rfl, hd, hk, q⟩ := h
  obtain ⟨u1, u2, rfl, r1, r2⟩ := vals2 r
  cases (show u2 = Value.type c from r2)
  have e : PySem.W.kitOne X.K (.type (tyD d)) (.type c) = some b := kit_ty hk
  have fin : ∀ tk, EP X pins σ Q (.bool b) { s with toks := tk } := fun tk => ⟨.bl b, H, I.tok tk, rfl, q⟩
  cases hd with
  | non =>
    cases (show u1 = Value.none from r1)
    exact PySem.W.kia_one PySem.W.kitx_none I.kIn True.intro e (fun z => nomatch z) fin
  | bl y =>
    cases (show u1 = Value.bool y from r1)
    exact PySem.W.kia_one PySem.W.kitx_bool I.kIn True.intro e (fun z => nomatch z) fin
  | int y =>
    obtain ⟨t, rfl⟩ := (show ∃ t, u1 = Value.int y t from r1)
    exact PySem.W.kia_one PySem.W.kitx_int I.kIn True.intro e (fun z => nomatch z) fin
  | str y =>
    obtain ⟨t, rfl⟩ := (show ∃ t, u1 = Value.str y t from r1)
    exact PySem.W.kia_one PySem.W.kitx_str I.kIn True.intro e (fun z => nomatch z) fin
  | lst h1 h2 =>
    cases (show u1 = Value.ref _ from r1)
    obtain ⟨its, rv, ⟨o, n, ho, hc, _, _⟩, _⟩ := I.list h1
    exact PySem.W.kia_one PySem.W.kitx_list I.kIn ⟨o, ho, hc⟩ e (fun z => nomatch z) fin
  | tup h1 h2 =>
    cases (show u1 = Value.ref _ from r1)
    obtain ⟨its, rv, ⟨o, ho, hc, n, _⟩, _⟩ := I.tuple h1
    exact PySem.W.kia_one PySem.W.kitx_tuple I.kIn ⟨o, ho, hc⟩ e (fun z => nomatch z) fin
section
variable {m : Mode} {Y : Fam} {σ : L2.St} {W W' : Wd} {i j k l : m.ι} {e a b c tg iter key : Expr} {es : List Expr} {rest body : List Stmt} {pos p p' ap cp : Pos} {x y z : Sv} {d d' : PD} {ds : List PD} {kvs : List (Key × PD)} {u v : Bool} {D : Ends} {s : Str} {n : Nat} {q : Addr}
/-- isinstance(x, T), T a built-in class by its name -/
theorem e_isinst {T : Str} {c : String} (B : BI Y "isinstance" (.builtin "isinstance")) (BT : BI Y T (.type c)) (ha : E m Y σ W i a (.d d) j) (hk : kitB (tyD d) c = some u) (hn : T ≠ "__name__" := by decide) (hd1 : (T == ("__debug__" : Str)) = false := by decide)
    (he : ∀ t, starEach [a, .Name T p'] (Y.X t).env = (false, eval a (Y.X t).env) :: starEach [.Name T p'] (Y.X t).env := by intro _; rfl) (he2 : ∀ t, starEach [.Name T p'] (Y.X t).env = (false, eval (.Name T p') (Y.X t).env) :: starEach [] (Y.X t).env := by intro _; rfl)
    (hpl : ∀ t, (backTo pos (starEach [.Name T p'] (Y.X t).env)).any (·.1) = false := by intro _; rfl) :
    E m Y σ W i (.Call (.Name "isinstance" p) [a, .Name T p'] [] pos) (.d (.bool u)) j := fun U h1 r Q z =>
  ⟨tCB (rIsD Y.K) (tCons (wE Y a) (tCons (tC (.ty c)) tNil)), fun t => pe_callB (by have h := call_isD (X := Y.X t); rw [Y.hK t] at h; exact h) (B.g.gl t) (by rw [Y.hmg]; exact B.m) B.v (pa_cons (wE_ok t) (pa_cons (pe_bltn (BT.g.gl t) (by rw [Y.hmg]; exact BT.m) BT.v rfl hn hd1) pa_nil (he2 t)) (he t)) (by decide) (by decide) (he t) (hpl t),
    ha U h1 r _ fun v T l1 r1 p1 => ⟨v, c, d, u, rfl, dp_sub T p1, hk, z _ T l1 r1 (Dp.bl _)⟩⟩
/-! ### in, not in: numbers among numbers -/
theorem inV_ints {n : Int} : ∀ ns : List Int, inV (.int n) (ns.map V.int) = ns.contains n
  | [] => rfl
  | a :: ns => by
    have h := inV_ints (n := n) ns
    unfold inV at h ⊢
    rw [List.map_cons, List.any_cons, h, List.contains_cons]
    congr 1
    show eqV (V.int a) (V.int n) = (n == a)
    by_cases z : a = n
    · subst z
      simp [eqV]
    · have z1 : (n == a) = false := beq_eq_false_iff_ne.mpr fun w => z w.symm
      have z2 : (a == n) = false := beq_eq_false_iff_ne.mpr z
      simp [eqV, z, z1, z2]
theorem flat_ints : ∀ ns : List Int, (ns.map V.int).all flatV = true
  | [] => rfl
  | _ :: ns => by
    rw [List.map_cons, List.all_cons, flat_ints ns]
    rfl
theorem c_inT {g : Int} {ns : List Int} (ha : E m Y σ W i a (.d (.int g)) j) (hb : E m Y σ W j b (.d (.tuple (ns.map .int))) k) (hm : behindInMarks .In b = false := by rfl) : EC m Y σ W i (.Compare a [.In] [b] pos) (ns.contains g) k := fun U l r Q z =>
  ⟨tOp (rIn Y.K false) _ _, fun t => cmpR (by have h := op_in_seq (X := Y.X t); rw [Y.hK t] at h; exact h) (wE_ok t) (wE_ok t) hm, ha U l r _ fun v1 T1 l1 r1 p1 => hb T1 (l.trans l1) r1 _ fun v2 T2 l2 r2 p2 => by
    obtain ⟨q, vs, e1, e2, e3⟩ := Is.tup p2
    have e4 := e3.ints
    subst e4
    rw [p1.int]
    refine ⟨q, _, e1, .inr (sqT_sub T2 e2), rfl, flat_ints ns, ?_⟩
    rw [if_neg Bool.false_ne_true, inV_ints]
    exact z _ T2 (l1.trans l2) r2 (Dp.bl _)⟩
theorem c_notinT {g : Int} {ns : List Int} (ha : E m Y σ W i a (.d (.int g)) j) (hb : E m Y σ W j b (.d (.tuple (ns.map .int))) k) (hm : behindInMarks .NotIn b = false := by rfl) : EC m Y σ W i (.Compare a [.NotIn] [b] pos) (!ns.contains g) k := fun U l r Q z =>
  ⟨tOp (rIn Y.K true) _ _, fun t => cmpR (by have h := op_notIn_seq (X := Y.X t); rw [Y.hK t] at h; exact h) (wE_ok t) (wE_ok t) hm, ha U l r _ fun v1 T1 l1 r1 p1 => hb T1 (l.trans l1) r1 _ fun v2 T2 l2 r2 p2 => by
    obtain ⟨q, vs, e1, e2, e3⟩ := Is.tup p2
    have e4 := e3.ints
    subst e4
    rw [p1.int]
    refine ⟨q, _, e1, .inr (sqT_sub T2 e2), rfl, flat_ints ns, ?_⟩
    rw [if_pos rfl, inV_ints]
    exact z _ T2 (l1.trans l2) r2 (Dp.bl _)⟩
theorem c_inL {g : Int} {ns : List Int} (ha : E m Y σ W i a (.d (.int g)) j) (hb : ERl m Y σ W j b (ns.map .int) k) (hm : behindInMarks .In b = false := by rfl) : EC m Y σ W i (.Compare a [.In] [b] pos) (ns.contains g) k := fun U l r Q z =>
  ⟨tOp (rIn Y.K false) _ _, fun t => cmpR (by have h := op_in_seq (X := Y.X t); rw [Y.hK t] at h; exact h) (wE_ok t) (wE_ok t) hm, ha U l r _ fun v1 T1 l1 r1 p1 => hb T1 (l.trans l1) r1 _ fun v2 T2 l2 r2 ⟨q, vs, e1, e2, e3⟩ => by
    have e4 := e3.ints
    subst e4
    rw [p1.int]
    refine ⟨q, _, e1, .inl (e2 T2 (Le.refl T2)), rfl, flat_ints ns, ?_⟩
    rw [if_neg Bool.false_ne_true, inV_ints]
    exact z _ T2 (l1.trans l2) r2 (Dp.bl _)⟩
theorem c_notinL {g : Int} {ns : List Int} (ha : E m Y σ W i a (.d (.int g)) j) (hb : ERl m Y σ W j b (ns.map .int) k) (hm : behindInMarks .NotIn b = false := by rfl) : EC m Y σ W i (.Compare a [.NotIn] [b] pos) (!ns.contains g) k := fun U l r Q z =>
  ⟨tOp (rIn Y.K true) _ _, fun t => cmpR (by have h := op_notIn_seq (X := Y.X t); rw [Y.hK t] at h; exact h) (wE_ok t) (wE_ok t) hm, ha U l r _ fun v1 T1 l1 r1 p1 => hb T1 (l.trans l1) r1 _ fun v2 T2 l2 r2 ⟨q, vs, e1, e2, e3⟩ => by
    have e4 := e3.ints
    subst e4
    rw [p1.int]
    refine ⟨q, _, e1, .inl (e2 T2 (Le.refl T2)), rfl, flat_ints ns, ?_⟩
    rw [if_pos rfl, inV_ints]
    exact z _ T2 (l1.trans l2) r2 (Dp.bl _)⟩
/-- list(xs), len(xs), tuple(xs) of a list that may be read now -/
theorem el_listR (B : BI Y "list" (.type "list")) (ha : ERl m Y σ W i e ds j) (he : ∀ a, starEach [e] (Y.X a).env = (false, eval e (Y.X a).env) :: starEach [] (Y.X a).env := by intro _; rfl) (hpl : ∀ a, (backTo pos (starEach [] (Y.X a).env)).any (·.1) = false := by intro _; rfl) :
    EL m Y σ W i (.Call (.Name "list" p) [e] [] pos) ds j := fun U h1 r Q z =>
  ⟨tCB (rListS Y.K) (tCons (wE Y e) tNil), fun t => pe_callTy (cList t) (B.g.gl t) (by rw [Y.hmg]; exact B.m) B.v (pa_cons (wE_ok t) pa_nil (he t)) (by decide) (by decide) (he t) (hpl t), ha U h1 r _ fun v T l1 r1 ⟨q, vs, e1, e2, e3⟩ => by
    subst e1
    refine ⟨q, vs, rfl, .inl (e2 T (Le.refl T)), fun l hl => ?_⟩
    exact z (.ref l) (T.own l _ hl) (l1.trans (Le.own hl)) (m.le0 r1 (Le.own hl)) ⟨l, vs, rfl, l1.back hl, T.fnone hl, upd_same, e3⟩⟩
theorem e_lenR (B : BI Y "len" (.builtin "len")) (ha : ERl m Y σ W i e ds j) (he : ∀ a, starEach [e] (Y.X a).env = (false, eval e (Y.X a).env) :: starEach [] (Y.X a).env := by intro _; rfl) (hpl : ∀ a, (backTo pos (starEach [] (Y.X a).env)).any (·.1) = false := by intro _; rfl) :
    E m Y σ W i (.Call (.Name "len" p) [e] [] pos) (.d (.int (ds.length : Int))) j := fun U h1 r Q z =>
  ⟨tCB (rLenS Y.K) (tCons (wE Y e) tNil), fun t => pe_callB (cLen t) (B.g.gl t) (by rw [Y.hmg]; exact B.m) B.v (pa_cons (wE_ok t) pa_nil (he t)) (by decide) (by decide) (he t) (hpl t), ha U h1 r _ fun v T l1 r1 ⟨q, vs, e1, e2, e3⟩ => by
    subst e1
    refine ⟨q, vs, rfl, .inl (e2 T (Le.refl T)), ?_⟩
    rw [e3.len]
    exact z _ T l1 r1 (Dp.int _)⟩
theorem e_tupR (B : BI Y "tuple" (.type "tuple")) (ha : ERl m Y σ W i e ds j) (he : ∀ a, starEach [e] (Y.X a).env = (false, eval e (Y.X a).env) :: starEach [] (Y.X a).env := by intro _; rfl) (hpl : ∀ a, (backTo pos (starEach [] (Y.X a).env)).any (·.1) = false := by intro _; rfl) :
    E m Y σ W i (.Call (.Name "tuple" p) [e] [] pos) (.d (.tuple ds)) j := fun U h1 r Q z =>
  ⟨tCB (rTupS Y.K) (tCons (wE Y e) tNil), fun t => pe_callTy (cTup t) (B.g.gl t) (by rw [Y.hmg]; exact B.m) B.v (pa_cons (wE_ok t) pa_nil (he t)) (by decide) (by decide) (he t) (hpl t), ha U h1 r _ fun v T l1 r1 ⟨q, vs, e1, e2, e3⟩ => by
    subst e1
    refine ⟨q, vs, rfl, .inl ⟨e2 T (Le.refl T), fun l hl => ?_⟩⟩
    exact z (.ref l) (T.frz l _ hl) (l1.trans (Le.frz hl)) (m.le0 r1 (Le.frz hl)) (Dp.tup (SqT.of upd_same) (e3.mono (upd_none (T.fnone hl))))⟩
/-- == and != of lists that may be read now, against written data -/
theorem Dp.ofR {K : PySem.W.Frag} {T : Wd} {a : Addr} {vs : List V} (h : SqL K T.H a vs) (hd : DpAll K T.F vs ds) : Dp K T.H (.ref a) (.list ds) := .lst h (hd.mono T.sub)
theorem c_neR (ha : ERl m Y σ W i a ds j) (hb : E m Y σ W j b (.d d') k) (h1 : SeqAt.shaped (.list ds) = true) (h2 : SeqAt.shaped d' = true) : EC m Y σ W i (.Compare a [.NotEq] [b] pos) (!PyData.eqv (.list ds) d') k := fun U l r Q z =>
  ⟨tOp (rNeD Y.K) _ _, fun t => cmpR (by have h := op_neD (X := Y.X t) (Y.units t); rw [Y.hK t] at h; exact h) (wE_ok t) (wE_ok t) (nomark _), ha U l r _ fun v1 T1 l1 r1 ⟨q, vs, e1, e2, e3⟩ => hb T1 (l.trans l1) r1 _ fun v2 T2 l2 r2 p2 => by
    subst e1
    exact ⟨_, d', Dp.ofR (e2 T2 l2) (e3.mono l2.f), dp_sub T2 p2, h1, h2, z _ T2 (l1.trans l2) r2 (Dp.bl _)⟩⟩
theorem c_eqR (ha : ERl m Y σ W i a ds j) (hb : E m Y σ W j b (.d d') k) (h1 : SeqAt.shaped (.list ds) = true) (h2 : SeqAt.shaped d' = true) : EC m Y σ W i (.Compare a [.Eq] [b] pos) (PyData.eqv (.list ds) d') k := fun U l r Q z =>
  ⟨tOp (rEqD Y.K) _ _, fun t => cmpR (by have h := op_eqD (X := Y.X t) (Y.units t); rw [Y.hK t] at h; exact h) (wE_ok t) (wE_ok t) (nomark _), ha U l r _ fun v1 T1 l1 r1 ⟨q, vs, e1, e2, e3⟩ => hb T1 (l.trans l1) r1 _ fun v2 T2 l2 r2 p2 => by
    subst e1
    exact ⟨_, d', Dp.ofR (e2 T2 l2) (e3.mono l2.f), dp_sub T2 p2, h1, h2, z _ T2 (l1.trans l2) r2 (Dp.bl _)⟩⟩
/-- xs[i] of a list that may be read now -/
theorem e_ixR {n : Int} (ha : ERl m Y σ W i a ds j) (hb : E m Y σ W j b (.d (.int n)) k) (h : atI ds n = some d) (hs : PlainIx b := by intro _ _; rfl) : E m Y σ W i (.Subscript a b pos) (.d d) k := fun U l r Q z =>
  ⟨tOp (rIxL Y.K) _ _, fun t => pe_ix (by have h := ix_list (X := Y.X t); rw [Y.hK t] at h; exact h) (wE_ok t) (wE_ok t) hs, ha U l r _ fun v1 T1 l1 r1 ⟨q, vs, e1, e2, e3⟩ => hb T1 (l.trans l1) r1 _ fun v2 T2 l2 r2 p2 => by
    obtain ⟨v, e4, e5⟩ := dpAt e3 h
    exact ⟨q, vs, n, v, e1, p2.int, e2 T2 l2, e4, z v T2 (l1.trans l2) r2 (Dp.mono l2.f e5)⟩⟩
/-! ### slices -/
theorem po_ok {Y : Fam} {e : Option Expr} (a : Y.α) : PO (Y.X a) e (wO Y e) := ⟨fun pins s σ H Q I ⟨_, h, q⟩ => (h a).run pins s σ H Q I q⟩
def EO (m : Mode) (Y : Fam) (σ : L2.St) (W : Wd) (i : m.ι) (e : Option Expr) (o : Option Int) (j : m.ι) : Prop :=
  ∀ U, Le m.M W U → m.R i U → ∀ Q : Option Int → Hp → Prop, (∀ T, Le m.M U T → m.R j T → Q o T.H) → wO Y e σ U.H Q
theorem eo_none : EO m Y σ W i none none i := fun U _ r Q z => ⟨tNoPart, fun _ => po_none, z U (Le.refl U) r⟩
theorem eo_some {g : Int} (h : E m Y σ W i e (.d (.int g)) j) : EO m Y σ W i (some e) (some g) j := fun U h1 r Q z => ⟨_, fun a => po_some (wE_ok a), h U h1 r _ fun v T l1 r1 p1 => ⟨g, p1.int, z T l1 r1⟩⟩
def cutD (xs : List PD) (lo hi : Option Int) : List PD := (xs.drop (HT.sIx xs.length 0 lo)).take (HT.sIx xs.length xs.length hi - HT.sIx xs.length 0 lo)
theorem dp_cut {K : PySem.W.Frag} {F : Hp} {vs : List V} {lo hi : Option Int} (h : DpAll K F vs ds) : DpAll K F (cutV vs lo hi) (cutD ds lo hi) := by
  unfold cutV cutD
  rw [h.len]
  exact (h.drop _).take _
theorem el_slice {lo hi : Option Expr} {g1 g2 : Option Int} {p2 : Pos} (ha : E m Y σ W i a (.d (.list ds)) j) (hl : EO m Y σ W j lo g1 k) (hh : EO m Y σ W k hi g2 l) : EL m Y σ W i (.Subscript a (.Slice lo hi none p2) pos) (cutD ds g1 g2) l := fun U le r Q z =>
  ⟨tSl (rSlL Y.K) _ _ _, fun t => pe_slice (by have h := sl_list (X := Y.X t); rw [Y.hK t] at h; exact h) (wE_ok t) (po_ok t) (po_ok t), ha U le r _ fun v1 T1 l1 r1 p1 => hl T1 (le.trans l1) r1 _ fun T2 l2 r2 => hh T2 ((le.trans l1).trans l2) r2 _ fun T3 l3 r3 => by
    obtain ⟨q, vs, e1, e2, e3⟩ := Is.lst p1
    have l4 := l2.trans l3
    refine ⟨q, vs, e1, sqL_sub T3 (Evl.ex_l l4.f e2), fun p hp => ?_⟩
    exact z (.ref p) (T3.own p _ hp) ((l1.trans l4).trans (Le.own hp)) (m.le0 r3 (Le.own hp)) ⟨p, _, rfl, (l1.trans l4).back hp, T3.fnone hp, upd_same, dp_cut (e3.mono l4.f)⟩⟩
theorem e_sliceT {lo hi : Option Expr} {g1 g2 : Option Int} {p2 : Pos} (ha : E m Y σ W i a (.d (.tuple ds)) j) (hl : EO m Y σ W j lo g1 k) (hh : EO m Y σ W k hi g2 l) : E m Y σ W i (.Subscript a (.Slice lo hi none p2) pos) (.d (.tuple (cutD ds g1 g2))) l := fun U le r Q z =>
  ⟨tSl (rSlA Y.K) _ _ _, fun t => pe_slice (by have h := sl_tupA (X := Y.X t); rw [Y.hK t] at h; exact h) (wE_ok t) (po_ok t) (po_ok t), ha U le r _ fun v1 T1 l1 r1 p1 => hl T1 (le.trans l1) r1 _ fun T2 l2 r2 => hh T2 ((le.trans l1).trans l2) r2 _ fun T3 l3 r3 => by
    obtain ⟨q, vs, e1, e2, e3⟩ := Is.tup p1
    have l4 := l2.trans l3
    have sq : SqT Y.K T3.F q vs := Evl.ex_t l4.f e2
    refine ⟨q, vs, e1, sqT_sub T3 sq, fun hw => ?_, fun _ p hp => ?_⟩
    · refine z (.ref q) T3 (l1.trans l4) r3 (Dp.tup sq ?_)
      have e : cutD ds g1 g2 = ds := by
        unfold cutD
        rw [← e3.len, hw.1, hw.2, List.drop_zero, Nat.sub_zero, e3.len, List.take_length]
      rw [e]
      exact e3.mono l4.f
    · exact z (.ref p) (T3.frz p _ hp) ((l1.trans l4).trans (Le.frz hp)) (m.le0 r3 (Le.frz hp)) (Dp.tup (SqT.of upd_same) ((dp_cut (e3.mono l4.f)).mono (upd_none (T3.fnone hp))))⟩
theorem el_rev {q' : Nat} {p1 p2 p3 : Pos} (ha : ERl m Y σ W i a ds j) : EL m Y σ W i (.Subscript a (.Slice none none (some (.UnaryOp .USub (.Constant (.int 1) q' p1) p2)) p3) pos) ds.reverse j := fun U le r Q z =>
  ⟨tRevL Y.K (wE Y a), fun t => by
    have h := pe_revL (X := Y.X t) (k := q') (p1 := p1) (p2 := p2) (p3 := p3) (pos := pos) (wE_ok (e := a) t)
    rw [Y.hK t] at h
    exact h, ha U le r _ fun v1 T l1 r1 ⟨q, vs, e1, e2, e3⟩ => by
    refine ⟨q, vs, e1, e2 T (Le.refl T), fun p hp => ?_⟩
    exact z (.ref p) (T.own p _ hp) (l1.trans (Le.own hp)) (m.le0 r1 (Le.own hp)) ⟨p, _, rfl, l1.back hp, T.fnone hp, upd_same, e3.rev⟩⟩
/-! ### chains of comparisons -/
def ro (K : PySem.W.Frag) (g : Int → Int → Bool) : R2 := rI0 fun i j => .bl (g i j)
theorem c_chain {o1 o2 : CmpOp} {g1 g2 : Int → Int → Bool} {n1 n2 n3 : Int} (h1 : ∀ X : Cx, OpR X (compareOp o1) (rI0 fun i j => .bl (g1 i j))) (h2 : ∀ X : Cx, OpR X (compareOp o2) (rI0 fun i j => .bl (g2 i j))) (ha : E m Y σ W i a (.d (.int n1)) j) (hb : E m Y σ W j b (.d (.int n2)) k) (hc : E m Y σ W k c (.d (.int n3)) k)
    (hm : lastMarks [o1, o2] [b, c] = false := by with_unfolding_all rfl) : EC m Y σ W i (.Compare a [o1, o2] [b, c] pos) (g1 n1 n2 && g2 n2 n3) k := fun U le r Q z =>
  ⟨_, fun t => cmpH (h1 _) (h2 _) (wE_ok t) (wE_ok t) (wE_ok t) hm, ha U le r _ fun v1 T1 l1 r1 p1 => hb T1 (le.trans l1) r1 _ fun v2 T2 l2 r2 p2 => ⟨n1, n2, p1.int, p2.int, g1 n1 n2, rfl, by
    cases hg : g1 n1 n2 with
    | true =>
      rw [if_pos rfl]
      refine hc T2 ((le.trans l1).trans l2) r2 _ fun v3 T3 l3 r3 p3 => ⟨n2, n3, p2.int, p3.int, ?_⟩
      refine z _ T3 ((l1.trans l2).trans l3) r3 ?_
      show Dp Y.K T3.F (V.bl (g2 n2 n3)) (.bool (g1 n1 n2 && g2 n2 n3))
      rw [hg]
      exact Dp.bl _
    | false =>
      rw [if_neg Bool.false_ne_true]
      refine z _ T2 (l1.trans l2) r2 ?_
      show Dp Y.K T2.F (V.bl false) (.bool (g1 n1 n2 && g2 n2 n3))
      rw [hg]
      exact Dp.bl _⟩⟩
theorem c_leqleq {n1 n2 n3 : Int} (ha : E m Y σ W i a (.d (.int n1)) j) (hb : E m Y σ W j b (.d (.int n2)) k) (hc : E m Y σ W k c (.d (.int n3)) k) (hm : lastMarks [.LtE, .LtE] [b, c] = false := by with_unfolding_all rfl) :
    EC m Y σ W i (.Compare a [.LtE, .LtE] [b, c] pos) (decide (n1 ≤ n2) && decide (n2 ≤ n3)) k := c_chain (g1 := fun i j => decide (i ≤ j)) (g2 := fun i j => decide (i ≤ j)) (fun _ => op_le) (fun _ => op_le) ha hb hc hm
/-! ### least of a list, sums -/
theorem cMin (a : Y.α) : CallR (Y.X a) (.builtin "min") (rMin Y.K) := by
  have h := cr_min (X := Y.X a) (Y.hc a)
  rw [Y.hK a] at h
  exact h
theorem e_minL {ns : List Int} {g : Int} (B : BI Y "min" (.builtin "min")) (ha : E m Y σ W i e (.d (.list (ns.map .int))) j) (hg : g ∈ ns) (hl : ∀ y ∈ ns, g ≤ y) (he : ∀ a, starEach [e] (Y.X a).env = (false, eval e (Y.X a).env) :: starEach [] (Y.X a).env := by intro _; rfl) :
    E m Y σ W i (.Call (.Name "min" p) [e] [] pos) (.d (.int g)) j := e_cb B cMin (ea_cons ha ea_nil he) (fun T vs Q h z => by
  obtain ⟨v, rfl, h1⟩ := h.inv1
  obtain ⟨q, us, rfl, e2, e3⟩ := Is.lst h1
  have e4 := e3.ints
  subst e4
  refine ⟨q, ns, rfl, sqL_sub T e2, List.length_pos_of_mem hg, fun m' hm hle => ?_⟩
  have e5 : m' = g := by
    have a1 := hl m' hm
    have a2 := hle g hg
    omega
  subst e5
  exact z _ T (Le.refl T) (Dp.int _)) (he := he)
theorem cSortI (a : Y.α) : CallR (Y.X a) (.builtin "sorted") (rSortedI Y.K) := by
  have h := cr_sortedI (X := Y.X a)
  rw [Y.hK a] at h
  exact h
/-- sorted of numbers: the one rising arrangement -/
theorem sorted_unique : ∀ {a b : List Int}, a.Perm b → a.Pairwise (· ≤ ·) → b.Pairwise (· ≤ ·) → a = b := fun h1 h2 h3 => h1.eq_of_pairwise (fun x y _ _ a b => Int.le_antisymm a b) h2 h3
theorem el_sorted {ns ns' : List Int} (B : BI Y "sorted" (.builtin "sorted")) (ha : E m Y σ W i e (.d (.list (ns.map .int))) j) (hp : ns'.Perm ns) (hs : ns'.Pairwise (· ≤ ·)) (he : ∀ a, starEach [e] (Y.X a).env = (false, eval e (Y.X a).env) :: starEach [] (Y.X a).env := by intro _; rfl) :
    EL m Y σ W i (.Call (.Name "sorted" p) [e] [] pos) (ns'.map .int) j := el_cb B cSortI (ea_cons ha ea_nil he) (fun T vs Q h z => by
  obtain ⟨v, rfl, h1⟩ := h.inv1
  obtain ⟨q, us, rfl, e2, e3⟩ := Is.lst h1
  have e4 := e3.ints
  subst e4
  refine ⟨q, ns, rfl, sqL_sub T e2, fun zs p h1 h2 h3 => ?_⟩
  have e5 : zs = ns' := sorted_unique (h1.trans hp.symm) h2 hs
  subst e5
  exact z p _ (T.own p _ h3) (Le.own h3) h3 (T.fnone h3) upd_same (dpInts zs)) (he := he)
end
end Pv
set_option Elab.async false
set_option linter.all false
set_option maxRecDepth 100000
set_option maxHeartbeats 4000000
namespace Pv
open PySem PySem.Spec PyProof.Rows L2
/-! ### sorted of a dict with whole numbers as keys, any number of them -/
theorem call_sortedKeys {X : Cx} (hcalm : X.calm = true) : CallR X (.builtin "sorted") (fun xs H Q => ∃ (a : Addr) (kvs : List (Key × V)) (ks : List Int), xs = [.ref a] ∧ Rd H a (.dK kvs) ∧ kvs.map (·.1) = ks.map Sum.inl ∧
    ∀ (ys : List Int) (p : Addr), ys.Perm ks → ys.Pairwise (· ≤ ·) → H p = none → Q (.ref p) (upd H p (.lst (ys.map V.int)))) := by
  intro pins s σ H xs us Q I r q
  obtain ⟨a, kvs, ks, ex, hd, hks, q⟩ := q
  subst ex
  obtain ⟨u, eu, rx⟩ := vals1 r
  subst eu
  cases rx
  obtain ⟨z, lo, vs, rel, dd⟩ := dk_rd I.hok hd
  obtain ⟨ep, hat⟩ := dd.dictAt
  have hkeys : vs.map (·.1) = ks.map Sum.inl := rel.keys.symm.trans hks
  have hl : vs.length = ks.length := by
    have e := congrArg List.length hkeys
    simpa using e
  have hzk : ks.length ≤ sizeLine := by
    rw [← hl, ← rel.length]
    exact z
  refine Calls.call_function_entry kind_sorted plain_sorted entry_sorted (args_sorted1 _) ?_
  unfold Builtin.«sorted»
  refine wpAny_bind (m := checkCount "sorted" 1 1 _) (wpAny_pure ?_)
  refine wpAny_bind (PySem.W.kdu_collect (A := X.A.in1) (PySem.W.kdl_dict (knd := mixKind X.prog X.w) (kvs := vs) (ep := ep) lo) (I.ok.hd hcalm) hat (by rw [hl]; exact hzk) fun h' tk acc hk hacc => ?_)
  have hal : acc.toList.length = ks.length := by rw [Array.length_toList, hacc.1, hl]
  have hS : IntsAre acc.toList ks := ints_each hal fun j v e => by
    obtain ⟨k, x, e1, e2⟩ := hacc.2 j v (by rw [← Array.getElem?_toList]; exact e)
    have e3 : (vs.map (·.1))[j]? = some k := by rw [List.getElem?_map, e1] <;> rfl
    rw [hkeys, List.getElem?_map] at e3
    cases e4 : ks[j]? with
    | none =>
      rw [e4] at e3
      cases e3
    | some y =>
      rw [e4] at e3
      have e5 : Sum.inl y = k := Option.some.inj e3
      subst e5
      rcases keyIs_shape (show keyIs (Sum.inl y) v = true from e2) with ⟨i, t, ek, ev⟩ | ⟨z, t, ek, ev⟩
      · cases ek
        exact ⟨y, t, rfl, ev⟩
      · cases ek
  have I1 : Inv X pins σ H { s with heap := h', toks := tk } := I.kept hk
  refine wpAny_bind (wpAny_newList ?_ (by rw [hal]; exact hzk))
  have hoL : (h'.push (seqObj "list" acc.toList.toArray 0)).get? h'.objs.size = some (seqObj "list" acc.toList.toArray 0) := Heap.get?_push_size _ rfl
  show wpAny _ _ _ _ _ { s with heap := h'.push (seqObj "list" acc.toList.toArray 0), toks := tk }
  refine wpAny_bind (wpAny_holding (wpAny_call_entry slot_list_sort ⟨_, hoL, rfl⟩ entry_list_sort
    (SrtO.list_sort_ord (s := { s with heap := h'.push (seqObj "list" acc.toList.toArray 0), toks := tk }) SrtO.swo_int hoL (by rw [hal]; exact hzk) (fun h2 => SrtO.ints_sortable hS h2) fun out g1 g2 => ⟨_, rfl, ?_⟩) (args_list_sort _)))
  obtain ⟨k1, k2, k3⟩ := SrtO.ints_out hS g1 g2
  obtain ⟨e', he'⟩ := sortedHeap_at (vs := acc.toList) (out := out.toArray) hoL
  have hlen : ((out.map SrtO.iv).map V.int).length ≤ sizeLine := by
    rw [List.length_map, k2.length_eq]
    exact hzk
  refine wpAny_pure ⟨_, rfl, .ref h'.objs.size, upd H h'.objs.size (.lst ((out.map SrtO.iv).map V.int)), I1.laid (t' := tk) (fun b u e => ?_) (Nat.le_refl _)
    (show ObjOk X.prog X.w _ _ _ (.lst ((out.map SrtO.iv).map V.int)) from ⟨hlen, out, e', vals_of_ints k1, he'⟩), rfl, q _ _ k2 k3 (I1.hok.fresh (Nat.le_refl _))⟩
  have hb : b < h'.objs.size := Heap.lt_size e
  rw [sortedHeap_old (Nat.ne_of_lt hb) (by rw [size_push']; exact Nat.lt_succ_of_lt hb)]
  exact Heap.get?_push_of_some _ e
/-! ### a tuple turned about -/
theorem sliceApplied_back {prog : Program} {w : World} {A : Around} {E : Value → Shared → Prop} {s : Shared} {sl : Addr} {vs : Value} {n : Nat} {Q : Int × Int × Nat → Shared → Prop} (hs : s.heap.IsSliceOf sl .none .none vs) (ps : IsPart vs (some (-1)))
    (h : Q ((n : Int) - 1, -1, n) s) : wpAny (model prog w) A (Builtin.Slice.sliceApplied (.ref sl) (pure (n : Int))) Q E s := by
  obtain ⟨os, hos, hcs, hds⟩ := id hs
  unfold Builtin.Slice.sliceApplied Builtin.Slice.sliceFields
  refine wpAny_bind (wpAny_bind (wpAny_field hos hds (x := .none) rfl (wpAny_bind (wpAny_field hos hds (x := .none) rfl (wpAny_bind (wpAny_field hos hds (x := vs) rfl (wpAny_pure ?_)))))))
  refine wpAny_bind (HT.slicePart_ ps ?_)
  show wpAny _ _ (if ((-1 : Int) == 0) = true then _ else _) _ _ s
  rw [if_neg (by decide)]
  refine wpAny_bind (HT.slicePart_ .none (wpAny_bind (HT.slicePart_ .none (wpAny_bind (wpAny_pure ?_)))))
  show wpAny _ _ (match Builtin.Slice.sliceAdjust none none (-1) (n : Int) with | (lo, hi) => pure (lo, (-1 : Int), Builtin.Slice.slicePlaces lo hi (-1))) _ _ s
  have e1 : Builtin.Slice.sliceAdjust none none (-1) (n : Int) = ((n : Int) - 1, -1) := rfl
  rw [e1]
  have e2 : Builtin.Slice.slicePlaces ((n : Int) - 1) (-1) (-1) = n := by
    unfold Builtin.Slice.slicePlaces
    have h1 : ¬ ((-1 : Int) > 0) := by omega
    simp only [h1, if_false, Int.neg_neg, Int.ediv_one]
    split <;> omega
  show wpAny _ _ (pure ((n : Int) - 1, (-1 : Int), Builtin.Slice.slicePlaces ((n : Int) - 1) (-1) (-1))) _ _ s
  rw [e2]
  exact wpAny_pure h
theorem pick_back (xs : Array Value) : ((List.range xs.size).filterMap fun (m : Nat) => xs[(((xs.size : Int) - 1) + (m : Int) * (-1)).toNat]?).toArray = xs.toList.reverse.toArray := by
  congr 1
  apply List.ext_getElem?
  intro k
  have key : (List.range xs.size).filterMap (fun (m : Nat) => xs[(((xs.size : Int) - 1) + (m : Int) * (-1)).toNat]?) = (List.range xs.size).map fun m => xs.getD (xs.size - 1 - m) default := by
    have hh : ∀ l : List Nat, (∀ m ∈ l, m < xs.size) → l.filterMap (fun (m : Nat) => xs[(((xs.size : Int) - 1) + (m : Int) * (-1)).toNat]?) = l.map fun m => xs.getD (xs.size - 1 - m) default := by
      intro l
      induction l with
      | nil => intro _; rfl
      | cons m l ih =>
        intro hl
        have hm := hl m List.mem_cons_self
        have e : (((xs.size : Int) - 1) + (m : Int) * (-1)).toNat = xs.size - 1 - m := by omega
        have e2 : xs[xs.size - 1 - m]? = some (xs.getD (xs.size - 1 - m) default) := by
          have hlt : xs.size - 1 - m < xs.size := by omega
          simp [Array.getD, hlt]
        rw [List.filterMap_cons, e, e2, ih fun q hq => hl q (List.mem_cons_of_mem _ hq), List.map_cons]
    exact hh _ fun m hm => List.mem_range.mp hm
  rw [key, List.getElem?_map]
  by_cases hk : k < xs.size
  · have h1 : (List.range xs.size)[k]? = some k := by simp [hk]
    have hlt : xs.size - 1 - k < xs.size := by omega
    rw [h1, List.getElem?_reverse (by simpa using hk)]
    simp [Array.getD, hlt]
  · have h1 : (List.range xs.size)[k]? = none := by simp; omega
    have h2 : xs.toList.reverse[k]? = none := by simp; omega
    rw [h1, h2]
    rfl
theorem getItem_tuple_back {prog : Program} {w : World} {A : Around} {E : Value → Shared → Prop} {s : Shared} {t sl : Addr} {items : Array Value} {vs : Value} {Q : Value → Shared → Prop} (ht : IsTup s.heap t items) (hs : s.heap.IsSliceOf sl .none .none vs) (ps : IsPart vs (some (-1)))
    (h : Q (.ref s.heap.objs.size) { s with heap := s.heap.push { cls := .type "tuple", data := .seq items.toList.reverse.toArray } }) (hsz : items.size ≤ sizeLine) : wpAny (model prog w) A (getItem (.ref t) (.ref sl)) Q E s := by
  obtain ⟨os, hos, hcs, hds⟩ := id hs
  have hTs : s.TypeIs (.ref sl) "slice" := ⟨os, hos, hcs⟩
  have hsize : sizeOk (.seq items.toList.reverse.toArray) := by
    show items.toList.reverse.toArray.size ≤ sizeLine
    simpa using hsz
  unfold getItem
  try with_reducible refine wpAny_holding ?_
  first | refine wpAny_bind (wpAny_pure ?_) | skip
  refine wpAny_bind (wpAny_sequenceKey ht.typeIs (by decide) ?_)
  refine wpAny_bind (wpAny_callSpecial?_slot (name := Str.ofString "__getitem__") ht.typeIs slot_tuple_getitem (wpAny_call_entry slot_tuple_getitem ht.typeIs entry_tuple_getitem ?_ (args_tuple_getitem _ _)))
  show wpAny _ _ (Builtin.Tuple.tupleItemsOf (.ref t) >>= _) _ _ s
  refine wpAny_bind (tupleItemsOf_ ht ?_)
  refine wpAny_bind (wpAny_typeOf hTs ?_)
  rw [if_pos (by decide)]
  refine wpAny_bind (sliceApplied_back hs ps ?_)
  have hno : ¬ (((((items.size : Int) - 1) == 0 && (-1 : Int) == 1) && items.size == items.size) = true) := by
    intro q
    rw [Bool.and_eq_true, Bool.and_eq_true] at q
    exact absurd q.1.2 (by decide)
  show wpAny _ _ (if ((((items.size : Int) - 1) == 0 && (-1 : Int) == 1) && items.size == items.size) = true then _ else _) _ _ s
  rw [if_neg hno, pick_back]
  first
    | exact wpAny_bind (m := Builtin.Tuple.tupleExact _) (wpAny_newObj_type (wpAny_pure ⟨_, rfl, wpAny_pure h⟩) hsize)
    | exact wpAny_bind (m := Builtin.Tuple.tupleExact _) (wpAny_newObj_type (wpAny_bind (wpAny_pure (wpAny_pure ⟨_, rfl, wpAny_pure h⟩))) hsize)
    | exact wpAny_bind (wpAny_bind (m := Builtin.Tuple.tupleExact _) (wpAny_newObj_type (wpAny_pure (wpAny_pure ⟨_, rfl, wpAny_pure h⟩)) hsize))
    | exact wpAny_bind (wpAny_bind (m := Builtin.Tuple.tupleExact _) (wpAny_newObj_type (wpAny_pure ⟨_, rfl, wpAny_pure h⟩) hsize))
def tRevT (K : PySem.W.Frag) (te : TE) : TE := fun σ H Q => te σ H fun x H1 => ∃ a xs, x = .ref a ∧ SqT K H1 a xs ∧ ∀ p, H1 p = none → Q (.ref p) (upd H1 p (.tup xs.reverse))
theorem pe_revT {X : Cx} {e : Expr} {te : TE} {k : Nat} {p1 p2 p3 pos : Pos} (he : PE X e te) : PE X (.Subscript e (.Slice none none (some (.UnaryOp .USub (.Constant (.int 1) k p1) p2)) p3) pos) (tRevT X.K te) := by
  refine ⟨fun pins s σ H Q I h => ?_⟩
  refine Subscript_ (thn (he.run pins s σ H _ I h) fun v s1 ⟨x, H1, I1, r1, q1⟩ => ?_)
  obtain ⟨a, xs, ex, hx, q⟩ := q1
  subst ex
  cases r1
  have hst : PO X (some (.UnaryOp .USub (.Constant (.int 1) k p1) p2)) (tPart (tUn (rU fun i => .int (-i)) (tC (.int 1)))) := po_some (pe_un un_neg pe_int)
  rw [show (Expr.Slice none none (some (.UnaryOp .USub (.Constant (.int 1) k p1) p2)) p3) = Expr.Slice none none (some (.UnaryOp .USub (.Constant (.int 1) k p1) p2)) p3 from rfl]
  refine wpAny_Slice ?_
  rw [evalPart_none]
  refine wpAny_pure ?_
  refine wpAny_pure ?_
  refine thn (hst.run pins s1 σ H1 (fun o H4 => o = some (-1) ∧ H4 = H1) I1 ⟨1, rfl, -1, rfl, rfl, rfl⟩) fun vs s4 ⟨o, H4, I4, ps, eo, e4⟩ => ?_
  subst eo e4
  have I5 : Inv X pins σ H4 { s4 with heap := s4.heap.push { cls := .type "slice", data := .fields #[.none, .none, vs] } } := I4.kept (t' := s4.toks) fun b ob q => Heap.get?_push_of_some _ q
  obtain ⟨its, r, ht, hz⟩ := I5.tuple hx
  have hlen := r.length
  show wpAny (model X.prog X.w) X.A (subscriptTail e (.Slice none none (some (.UnaryOp .USub (.Constant (.int 1) k p1) p2)) p3) (.ref a) (.ref s4.heap.objs.size)) (EP X pins σ Q) X.xe { s4 with heap := s4.heap.push { cls := .type "slice", data := .fields #[.none, .none, vs] } }
  refine tail_any (ops := [.ref a, .ref s4.heap.objs.size]) ht.typeIs slot_tuple_getitem.lookup ?_ (by with_unfolding_all rfl)
  refine getItem_tuple_back ht (Heap.IsSliceOf.new _ .none .none vs) ps ?_ (by rw [List.size_toArray]; omega)
  refine ⟨.ref _, _, I5.laid (t' := s4.toks) (o := .tup xs.reverse) (fun b ob q => Heap.get?_push_of_some _ q) (Nat.le_refl _) ?_, rfl, q _ (I5.hok.fresh (Nat.le_refl _))⟩
  exact ⟨by rw [List.length_reverse]; exact hz, _, r.reverse, IsTup.new _ _⟩
/-! ### tuple.count among numbers -/
theorem countV {n : Int} : ∀ {ns : List Int} {us : List Value}, Vals (ns.map V.int) us → us.countP (eqU (.int n)) = ns.count n
  | [], _, .nil => rfl
  | a :: ns, _, .cons r t => by
    rw [List.countP_cons, countV t, List.count_cons]
    have e : eqU (.int n) _ = eqV (.int a) (.int n) := eqU_of (x := V.int n) r rfl
    rw [e]
    by_cases z : a = n
    · subst z
      simp [eqV]
    · have z1 : (a == n) = false := beq_eq_false_iff_ne.mpr z
      simp [eqV, z, z1]
theorem pe_tcount {X : Cx} {o e : Expr} {te : TE} {ta : TA} {apos cpos : Pos} (ho : PE X o te) (ha : PA X [e] ta)
    (hbase : attributeBase o "count" X.env (eval o X.env) = eval o X.env)
    (hfew : ((backTo cpos (starEach [e] X.env)).all (fun x => !x.1) && (backToKw cpos (keywordEach [] X.env)).all (fun x => x.1.isSome) && decide ([e].length + ([] : List Keyword).length + (if ([] : List Keyword).isEmpty then 0 else 1) < 30)) = true)
    (hline : (apos.endLine == cpos.line) = true) (hs : starEach [e] X.env = (false, eval e X.env) :: starEach [] X.env) (hplain : (backTo cpos (starEach [] X.env)).any (·.1) = false) :
    PE X (.Call (.Attribute o "count" apos) [e] [] cpos) (fun σ H Q => te σ H fun x H1 => ∃ (a : Addr) (ob : Obj) (ns : List Int), x = .ref a ∧ H1 a = some (.frz ob (.tup (ns.map V.int))) ∧ ob.cls = .type "tuple" ∧ ob.dict = none ∧
      ta σ H1 fun vs H2 => ∃ n : Int, vs = [.int n] ∧ H2 a = some (.frz ob (.tup (ns.map V.int))) ∧ Q (.int (ns.count n : Nat)) H2) := by
  refine ⟨fun pins s σ H Q I h => ?_⟩
  refine wpAny_Call_method_late hbase hfew hline rfl (thn (ho.run pins s σ H _ I h) fun v s1 ⟨x, H1, I1, r1, a, ob, ns, ex, h1, hc, hd, q1⟩ => ?_)
  subst ex
  obtain rfl : v = Value.ref a := r1
  obtain ⟨hob, _⟩ := (show ObjOk X.prog X.w H1 s1.heap a (.frz ob (.tup (ns.map V.int))) from I1.hok a _ h1)
  refine ⟨"tuple", "tuple.count", PySem.F.plainAttrs_tuple, PySem.F.slot_tuple_count, PySem.F.type_tuple_count, ⟨ob, hob, hc⟩, fun b e => by cases e; exact ⟨ob, hob, hd⟩, ?_⟩
  have hA := ha.run cpos pins s1 σ H1 _ I1 q1
  rw [hs] at hA ⊢
  refine Calls.callWith_builtin (by show (false || (backTo cpos (starEach [] X.env)).any (·.1)) = false; rw [hplain] <;> rfl) (Calls.evalArgs_plain ?_)
  refine thn hA fun us s2 ⟨vs, H2, I2, r2, n, ev, h2, q2⟩ => ?_
  subst ev
  obtain ⟨u, rfl, t, rfl⟩ := vals1 r2
  obtain ⟨hob2, _, its, rv, o2, e2, _, n2, d2⟩ := (show ObjOk X.prog X.w H2 s2.heap a (.frz ob (.tup (ns.map V.int))) from I2.hok a _ h2)
  rw [hob2] at e2
  cases e2
  obtain ⟨cls, dd, data, sl⟩ := ob
  simp only at hc hd d2
  subst hc hd d2
  refine PySem.call_meets PySem.F.slot_tuple_count ⟨_, hob2, rfl⟩ PySem.F.entry_tuple_count (PySem.F.args_tuple_count_2 _ _) (SeqAt.tuple_countAt a its.toArray n2 none sl (.int n t) (eqU (.int n)))
    ⟨hob2, fun y hy => mem_eqAt (x := .int n) ⟨t, rfl⟩ rfl rv (flat_ints ns) y (by simpa using hy), ?_⟩
  refine ⟨.int (ns.count n : Nat), H2, I2.tok _, ⟨s2.toks, ?_⟩, q2⟩
  rw [List.toList_toArray, countV rv]
/-! ### tuple() whose object is known -/
theorem call_tupleP {X : Cx} : CallR X (.type "tuple") (fun xs H Q => ∃ p ys, xs = [.ref p] ∧ SqL X.K H p ys ∧ ∀ l ob, ob.cls = .type "tuple" → ob.dict = none → H l = none → Q (.ref l) (upd H l (.frz ob (.tup ys)))) := by
  intro pins s σ H xs us Q I r h
  obtain ⟨p, ys, rfl, hq, q⟩ := h
  obtain ⟨u, rfl, rx⟩ := vals1 r
  cases rx
  obtain ⟨its, r', pl, hz⟩ := I.list hq
  have hlen := r'.length
  refine call_tuple_list pl.isList (fun h' kp => ?_) (by simp only [List.size_toArray] <;> omega)
  have I1 : Inv X pins σ H { s with heap := h' } := I.kept (t' := s.toks) kp
  have hat : (h'.push { cls := .type "tuple", data := .seq its.toArray }).get? h'.objs.size = some { cls := .type "tuple", data := .seq its.toArray } := Heap.get?_push_size _ rfl
  have I2 : Inv X pins σ (upd H h'.objs.size (.frz { cls := .type "tuple", data := .seq its.toArray } (.tup ys))) { s with heap := h'.push { cls := .type "tuple", data := .seq its.toArray } } :=
    I1.laid (t' := s.toks) (fun b o e => Heap.get?_push_of_some _ e) (Nat.le_refl _) ⟨hat, hz, its, r', IsTup.new _ _⟩
  exact ⟨.ref h'.objs.size, _, I2, rfl, q _ _ rfl rfl (I1.hok.fresh (Nat.le_refl _))⟩
/-! ### a tuple once, or not at all -/
theorem tuple_mul1 (l : Addr) (items : Array Value) (n : Nat) (dd : Option Addr) (sl : Array (Option Value)) (u : Tok) :
    Meets (Builtin.«tuple.__mul__» ⟨[.ref l, .int 1 u], []⟩) (fun _ R s => s.heap.get? l = some { cls := .type "tuple", dict := dd, data := .seq items n, slots := sl } ∧ R (.ok (.ret (Value.ref l))) s) :=
  .of_wp fun prog w A R s h => by
    obtain ⟨hp, g, d, tk, os⟩ := s
    obtain ⟨hl, h⟩ := h
    have f1 := AutoSeq1.idx_int
    have c1 : (items.isEmpty || (1 : Int) == 1) = true := by simp
    wp_walk using wpAny_loadPart' hl
    repeat (first
      | (refine wpAny_ite_false (by decide) ?_; wp_walk using wpAny_loadPart' hl)
      | (refine wpAny_ite_true (by simp) ?_; wp_walk using wpAny_loadPart' hl))
    exact ⟨_, rfl, h⟩
theorem tuple_mul0 (l : Addr) (items : Array Value) (n : Nat) (dd : Option Addr) (sl : Array (Option Value)) (u : Tok) (hi : items.isEmpty = false) :
    Meets (Builtin.«tuple.__mul__» ⟨[.ref l, .int 0 u], []⟩) (fun _ R s => s.heap.get? l = some { cls := .type "tuple", dict := dd, data := .seq items n, slots := sl } ∧ R (.ok (.ret (Value.ref s.heap.objs.size))) { s with heap := s.heap.push { cls := Value.type "tuple", data := Data.seq #[] }, toks := s.toks }) :=
  .of_wp fun prog w A R s h => by
    obtain ⟨hp, g, d, tk, os⟩ := s
    obtain ⟨hl, h⟩ := h
    have f1 := AutoSeq1.idx_int
    wp_walk using wpAny_loadPart' hl
    repeat (first
      | (refine wpAny_ite_false (by first | decide | simp [hi]) ?_; wp_walk using wpAny_loadPart' hl)
      | (refine wpAny_ite_true (by simp) ?_; wp_walk using wpAny_loadPart' hl))
    exact ⟨_, rfl, h⟩
end Pv
set_option Elab.async false
set_option linter.all false
set_option maxRecDepth 100000
set_option maxHeartbeats 4000000
namespace Pv
open PySem PySem.Spec PyProof.Rows L2
/-! ### enumerate of a tuple -/
theorem meets_enum_tup (l : Addr) (items : Array Value) (n : Nat) (dct : Option Addr) (sl : Array (Option Value)) :
    Meets (Builtin.«enumerate.__new__» ⟨[.type "enumerate", .ref l], []⟩) (fun _ R s => s.heap.get? l = some { cls := .type "tuple", dict := dct, data := .seq items n, slots := sl } ∧
      R (.ok (.ret (.ref (s.heap.push { cls := .type "tuple_iterator", data := .fields #[.ref l, .int 0 0] }).objs.size)))
        { s with heap := (s.heap.push { cls := .type "tuple_iterator", data := .fields #[.ref l, .int 0 0] }).push { cls := .type "enumerate", data := .fields #[.none, .bool false, .ref s.heap.objs.size, rawInt 0, .none, .none] } }) :=
  .of_wp fun prog w A R s h => by
    obtain ⟨hp, g, d, tk, os⟩ := s
    obtain ⟨hl, h⟩ := h
    have hsub := sub_enumerate
    have hT : Heap.IsTuple (Shared.heap ⟨hp, g, d, tk, os⟩) l items := ⟨_, hl, rfl, n, rfl⟩
    wp_walk using AutoSeq1.wpAny_loadPart' hl
    refine wpAny_stack_any fun st => wpAny_pure ?_
    split
    · rename_i c _ _ _ _ _
      cases (c == Value.type "enumerate")
      · wp_walk using AutoSeq1.wpAny_loadPart' hl, wpAny_pyIter_tuple hT
        exact ⟨_, rfl, h⟩
      · wp_walk using AutoSeq1.wpAny_loadPart' hl, wpAny_pyIter_tuple hT
        exact ⟨_, rfl, h⟩
    · wp_walk using AutoSeq1.wpAny_loadPart' hl, wpAny_pyIter_tuple hT
      exact ⟨_, rfl, h⟩
theorem call_enum_tup {prog : Program} {w : World} {A : Around} {E : Value → Shared → Prop} {s : Shared} {l : Addr} {items : Array Value} {Q : Value → Shared → Prop} (hL : IsTup s.heap l items)
    (h : ∀ h', IsEnum h' (s.heap.objs.size + 1) s.heap.objs.size 0 .none → h'.IsTupleIter s.heap.objs.size l 0 → h'.objs.size = s.heap.objs.size + 2 →
      (∀ b o, s.heap.get? b = some o → h'.get? b = some o) → Q (.ref (s.heap.objs.size + 1)) { s with heap := h' }) : wpAny (model prog w) A (call (.type "enumerate") [.ref l]) Q E s := by
  obtain ⟨⟨c, dct, dt, sl⟩, hl, hc, n, hd⟩ := hL
  replace hc : c = .type "tuple" := hc
  replace hd : dt = .seq items n := hd
  subst hc hd
  refine callType_new PySem.F.called_enumerate (by decide) (PySem.F.typeCall_enumerate_1 _) (PySem.F.newCall_enumerate_1 _) (fun obj => PySem.F.args_object_init_2 obj _) PySem.F.entry_enumerate_new (meets_enum_tup l items n dct sl) ⟨hl, ?_⟩
  have hz : (s.heap.push { cls := .type "tuple_iterator", data := .fields #[.ref l, .int 0 0] }).objs.size = s.heap.objs.size + 1 := Heap.size_push ..
  show _ ∧ _
  rw [hz]
  have he : IsEnum ((s.heap.push { cls := .type "tuple_iterator", data := .fields #[.ref l, .int 0 0] }).push { cls := .type "enumerate", data := .fields #[.none, .bool false, .ref s.heap.objs.size, rawInt 0, .none, .none] }) (s.heap.objs.size + 1) s.heap.objs.size 0 .none := by
    have q := Heap.get?_push_size (s.heap.push { cls := .type "tuple_iterator", data := .fields #[.ref l, .int 0 0] }) (o := { cls := .type "enumerate", data := .fields #[.none, .bool false, .ref s.heap.objs.size, rawInt 0, .none, .none] }) rfl
    rw [hz] at q
    exact q
  refine ⟨⟨_, he, rfl⟩, h _ he ⟨_, Heap.get?_push_of_some _ (Heap.get?_push_size _ rfl), rfl, rfl⟩ (by rw [Heap.size_push, hz]) fun b o x => Heap.get?_push_of_some _ (Heap.get?_push_of_some _ x)⟩
def IteT (K : PySem.W.Frag) (a : Addr) : It :=
  ⟨fun i H => ∃ (xs : List V) (x : V), SqT K H a xs ∧ xs[i]? = some x, fun i H v H' => ∃ T x, v = .ref T ∧ H T = none ∧ H' = upd H T (.tup [.int (i : Nat), x]) ∧ ∀ xs, SqT K H a xs → xs[i]? = some x, fun i H => ∃ xs : List V, SqT K H a xs ∧ xs.length = i⟩
theorem turn_enumT {P : Program} {w : World} {K : PySem.W.Frag} {elts : List Expr} {kk : Nat} {tpos : Pos} (a e it : Addr) (hai : a ≠ it) (hae : a ≠ e) :
    Turn P w K (.Tuple elts kk tpos) (IteT K a) [e, it] e (fun i h => (∃ old, IsEnum h e it ((i : Nat) : Int) old) ∧ h.IsTupleIter it a i ∧ e ≠ it) where
  mem := by simp
  obj := fun i h st b hb => by
    obtain ⟨⟨old, he⟩, ⟨o, ho, hc, hd⟩, _⟩ := st
    have e' : b = e ∨ b = it := by simpa using hb
    rcases e' with z | z
    · subst z
      exact ⟨_, he, fun v q => nomatch q⟩
    · subst z
      exact ⟨o, ho, fun v q => by rw [hd] at q; cases q⟩
  keep := fun i h h' st k => by
    obtain ⟨⟨old, he⟩, hi, hne⟩ := st
    exact ⟨⟨old, k e (by simp) _ he⟩, hi.at fun o q => k it (by simp) o q, hne⟩
  item := by
    intro X hP hw hK hc i pins s σ H E I hf st hg
    subst hP hw hK
    obtain ⟨⟨old, he⟩, hit, hne⟩ := st
    obtain ⟨xs, x, hq, hx⟩ := hg
    obtain ⟨its, rv, p, hz⟩ := I.tuple hq
    obtain ⟨u, hu, ru⟩ := rv.get hx
    have hel : e < s.heap.objs.size := Heap.lt_size he
    have hil : it < s.heap.objs.size := by
      obtain ⟨_, q, _⟩ := hit
      exact Heap.lt_size q
    have Dr := Draws.tuple (prog := X.prog) (w := X.w) (A := X.A.in1) (I.ok.hd hc) it a hai its.toArray
    have hlt : i < its.toArray.size := by
      have := (List.getElem?_eq_some_iff.mp hu).1
      simpa using this
    refine wpAny_pyNext_enum_itemD Dr he ⟨hit, p⟩ hlt hne (by simp; exact ⟨hne, fun z => hae z.symm⟩) fun x1 h' tk hx1 ho hst hT hsz hk => ?_
    have ex : x1 = u := by
      have h1 : its.toArray[i]? = some u := by simpa using hu
      rw [hx1] at h1
      exact Option.some.inj h1
    subst ex
    refine ⟨_, rfl, wpAny_letOwnedTupleGo_enum (s := { s with heap := h', toks := tk + 1 }) ho fun h'' he' sb => ?_⟩
    have hT2 : h''.get? s.heap.objs.size = some { cls := .type "tuple", data := .seq #[.int i tk, x1] } := (sb.2 _ (Nat.ne_of_gt hel)).trans hT
    have new : ObjOk X.prog X.w (upd H s.heap.objs.size (.tup [.int (i : Nat), x])) h'' s.heap.objs.size (.tup [.int (i : Nat), x]) :=
      ⟨Evl.sz_of (by simp), [.int i tk, x1], .cons ⟨_, rfl⟩ (.cons ru .nil), ⟨_, hT2, rfl, _, rfl⟩⟩
    have I1 : Inv X pins σ (upd H s.heap.objs.size (.tup [.int (i : Nat), x])) { s with heap := h'', toks := tk + 1 } :=
      I.turnedNew (ch := [e, it]) (fun b ob hb q => (sb.2 b (fun z => hb (by simp [z]))).trans (hk b ob (fun z => hb (by simp [z])) (fun z => hb (by simp [z])) q)) hf (Nat.le_refl _) new
    refine ⟨.ref s.heap.objs.size, _, I1, rfl, ⟨_, x, rfl, I.hok.fresh (Nat.le_refl _), rfl, fun ys hy => by rw [I.tuple_inj hy hq]; exact hx⟩, ⟨⟨x1, ?_⟩, hst.1.at fun o q => (sb.2 it (Ne.symm hne)).trans q, hne⟩, fun b hb => ?_⟩
    · have e1 : ((i + 1 : Nat) : Int) = (i : Int) + 1 := by omega
      rw [e1]
      exact he'
    · have hb' : b < s.heap.objs.size := by
        have e' : b = e ∨ b = it := by simpa using hb
        rcases e' with z | z
        · rw [z]
          exact hel
        · rw [z]
          exact hil
      rw [upd_ne (Nat.ne_of_lt hb')]
      exact (hf b hb).1
  done := by
    intro X hP hw hK hc i pins s σ H E I hf st hg
    subst hP hw hK
    obtain ⟨⟨old, he⟩, hit, hne⟩ := st
    obtain ⟨xs, hq, hx⟩ := hg
    obtain ⟨its, rv, p, hz⟩ := I.tuple hq
    obtain ⟨f0, f1, f2, f3, f4, f5⟩ := hf it (by simp)
    have hl := rv.length
    have en : i = its.toArray.size := by
      rw [List.size_toArray, ← hl]
      exact hx.symm
    subst en
    have Dr := Draws.tuple (prog := X.prog) (w := X.w) (A := X.A.in1) (I.ok.hd hc) it a hai its.toArray
    exact wpAny_pyNext_enum_endD Dr he ⟨hit, p⟩ fun h' eb => ⟨rfl, I.turned (t' := s.toks) (fun b o hb q => eb b o hb q) f0 f1 f3 f4 f5⟩
  self := fun A i s Q E st h => by
    obtain ⟨⟨_, he⟩, _⟩ := st
    exact wpAny_pyIter_enum he h
def iEnumT (K : PySem.W.Frag) (ta : TA) : TI := fun σ H R => ta σ H fun vs H1 => ∃ a xs, vs = [.ref a] ∧ SqT K H1 a xs ∧ R (IteT K a) H1
theorem pi_enumT {X : Cx} {e : Expr} {ta : TA} {p pos tpos : Pos} {elts : List Expr} {kk : Nat} (hg : Gl X "enumerate") (hm : X.mg "enumerate" = none) (ha : PA X [e] ta) (hs : starEach [e] X.env = [(false, eval e X.env)]) :
    PI X (.Tuple elts kk tpos) (.Call (.Name "enumerate" p) [e] [] pos) (iEnumT X.K ta) := by
  refine ⟨fun pins s σ H R I h => ?_⟩
  refine Call_ (ld_blt I hg hm boot_enumerate (callWith_type1 (thn (ha.run pos pins s σ H _ I h) fun us s1 ⟨vs, H1, I1, r1, q1⟩ => ?_) hs rfl))
  obtain ⟨a, xs, ex, hq, q⟩ := q1
  subst ex
  obtain ⟨u, rfl, r⟩ := vals1 r1
  cases r
  obtain ⟨its, rv, p', hz⟩ := I1.tuple hq
  have hal : a < s1.heap.objs.size := p'.lt
  refine call_enum_tup p' fun h' he hit hsz hk => wpAny_pyIter_enum he ?_
  have I2 : Inv X pins σ H1 { s1 with heap := h' } := I1.kept (t' := s1.toks) hk
  refine ⟨s1.heap.objs.size + 1, [s1.heap.objs.size + 1, s1.heap.objs.size], _, _, H1, rfl, I2, turn_enumT a (s1.heap.objs.size + 1) s1.heap.objs.size (Nat.ne_of_lt hal) (Nat.ne_of_lt (Nat.lt_succ_of_lt hal)), ⟨⟨.none, he⟩, hit, Nat.succ_ne_self _⟩, fun b hb => ?_, q⟩
  have e' : b = s1.heap.objs.size + 1 ∨ b = s1.heap.objs.size := by simpa using hb
  have hle : s1.heap.objs.size ≤ b := by
    rcases e' with z | z <;> rw [z]
    · exact Nat.le_add_right _ _
    · exact Nat.le_refl _
  exact I1.fpOk hle (I1.hok.fresh hle)
/-! ### a tuple so many times -/
def rRepA (K : PySem.W.Frag) : R2 := fun x y H Q => ∃ l k xs, x = .ref l ∧ y = .int k ∧ SqT K H l xs ∧ xs ≠ [] ∧ 0 ≤ k ∧ k ≤ 1000 ∧ xs.length ≤ 1000 ∧ (k = 1 → Q (.ref l) H) ∧ (k ≠ 1 → ∀ p, H p = none → Q (.ref p) (upd H p (.tup (List.replicate k.toNat xs).flatten)))
theorem op_repA {X : Cx} : OpR X (binaryOp .Mult) (rRepA X.K) := by
  intro pins s σ H x y v u Q I rx ry h
  obtain ⟨l, k, xs, rfl, rfl, hT, hne, h1, h2, hz, q1, q2⟩ := h
  by_cases hk : 2 ≤ k
  · exact op_repT pins s σ H _ _ v u Q I rx ry ⟨l, k, xs, rfl, rfl, hT, hne, hk, h2, hz, q2 (by omega)⟩
  · cases rx
    obtain ⟨t, rfl⟩ := ry
    obtain ⟨its, r, ⟨⟨cls, dd, data, sl⟩, ho, hc, n, hd⟩, hs⟩ := I.tuple hT
    simp only at hc hd
    subst hc hd
    have hle : its.length = xs.length := r.length.symm
    have hi : its.toArray.isEmpty = false := by
      cases its with
      | nil => exact absurd (List.eq_nil_of_length_eq_zero (by simpa using hle.symm)) hne
      | cons a b => rfl
    by_cases k1 : k = 1
    · subst k1
      exact wpAny_binaryOp_repeat_ref (T := "tuple") (U := "int") (by decide) ⟨_, ho, rfl⟩ (fun s' => typeIs_int s' 1 t) noFill_tuple_mul PySem.F.fills_int_mul PySem.F.slot_int_rmul repeat_tuple PySem.F.slot_int_index.lookup
        (PySem.call_meets PySem.F.slot_int_rmul (typeIs_int s 1 t) PySem.F.entry_int_rmul (PySem.F.args_int_rmul_2 _ _) (int_rmul_tuple 1 t l its.toArray n dd sl)
          ⟨ho, rfl, ⟨_, ho, rfl⟩, PySem.call_meets PySem.F.slot_tuple_mul ⟨_, ho, rfl⟩ PySem.F.entry_tuple_mul (PySem.F.args_tuple_mul_2 _ _) (tuple_mul1 l its.toArray n dd sl t) ⟨ho, ⟨.ref l, H, I, rfl, q1 rfl⟩⟩⟩)
    · have k0 : k = 0 := by omega
      subst k0
      refine wpAny_binaryOp_repeat_ref (T := "tuple") (U := "int") (by decide) ⟨_, ho, rfl⟩ (fun s' => typeIs_int s' 0 t) noFill_tuple_mul PySem.F.fills_int_mul PySem.F.slot_int_rmul repeat_tuple PySem.F.slot_int_index.lookup
        (PySem.call_meets PySem.F.slot_int_rmul (typeIs_int s 0 t) PySem.F.entry_int_rmul (PySem.F.args_int_rmul_2 _ _) (int_rmul_tuple 0 t l its.toArray n dd sl)
          ⟨ho, rfl, ⟨_, ho, rfl⟩, PySem.call_meets PySem.F.slot_tuple_mul ⟨_, ho, rfl⟩ PySem.F.entry_tuple_mul (PySem.F.args_tuple_mul_2 _ _) (tuple_mul0 l its.toArray n dd sl t hi) ⟨ho, ?_⟩⟩)
      refine ⟨.ref s.heap.objs.size, _, I.laid (t' := s.toks) (o := .tup (List.replicate (0 : Int).toNat xs).flatten) (fun b ob q => Heap.get?_push_of_some _ q) (Nat.le_refl _) ?_, rfl, q2 (by omega) _ (I.hok.fresh (Nat.le_refl _))⟩
      exact ⟨Nat.zero_le _, [], .nil, IsTup.new s.heap #[]⟩
end Pv
set_option Elab.async false
set_option linter.all false
set_option maxRecDepth 100000
set_option maxHeartbeats 4000000
namespace Pv
open PySem PySem.Spec PyProof.Rows L2
section
variable {m : Mode} {Y : Fam} {σ : L2.St} {W W' : Wd} {i j k l : m.ι} {e a b c tg iter key : Expr} {es : List Expr} {rest body : List Stmt} {pos p p' ap cp : Pos} {x y z : Sv} {d d' : PD} {ds : List PD} {kvs : List (Key × PD)} {u v : Bool} {D : Ends} {s : Str} {n : Nat} {q : Addr}
theorem ei_enumT {elts : List Expr} {q : Nat} {tp : Pos} (B : BI Y "enumerate" (.type "enumerate")) (ha : E m Y σ W i a (.d (.tuple ds)) j)
    (hs : ∀ c, starEach [a] (Y.X c).env = [(false, eval a (Y.X c).env)] := by intro _; rfl) :
    EI m Y σ W i (.Tuple elts q tp) (.Call (.Name "enumerate" p) [a] [] pos) ds.length (itP Y.K fun n d1 d2 => d1 = .int (n : Int) ∧ ds[n]? = some d2) j := fun U l r Z z =>
  ⟨iEnumT Y.K (wA Y [a]), fun c => by
    have h := pi_enumT (X := Y.X c) (tpos := tp) (elts := elts) (kk := q) (p := p) (pos := pos) (B.g.gl c) (by rw [Y.hmg]; exact B.m) (wA_ok (es := [a]) c) (hs c)
    rw [Y.hK c] at h
    exact h, ea_cons ha ea_nil (fun c => by rw [hs c]; rfl) U l r _ fun vs T l1 r1 p1 => by
    obtain ⟨v, rfl, hv⟩ := p1.inv1
    obtain ⟨a1, vs1, rfl, e2, e3⟩ := Is.tup hv
    refine ⟨a1, vs1, rfl, sqT_sub T e2, z _ T l1 r1 ⟨fun T' hf => ⟨vs1, sqT_sub T' (Evl.ex_t hf e2), e3.len⟩, fun n hn T' hf => ?_⟩⟩
    have q1 : SqT Y.K T'.H a1 vs1 := sqT_sub T' (Evl.ex_t hf e2)
    have h1 : n < vs1.length := by rw [e3.len]; exact hn
    refine ⟨⟨vs1, vs1[n], q1, by simp [h1]⟩, fun x H' ⟨t, x2, ex, ht, hH, g2⟩ => ?_⟩
    subst ex hH
    obtain ⟨d2, w3, w4⟩ := e3.get (g2 vs1 q1)
    have up := upd_none (o := .tup [.int (n : Nat), x2]) (T'.fnone ht)
    exact ⟨T'.frz t _ ht, rfl, Le.frz ht, t, _, x2, _, d2, rfl, SqT.of upd_same, Dp.int _, (w4.mono hf).mono up, rfl, w3⟩⟩
/-- sorted of a dict by its keys -/
theorem cSortK (a : Y.α) : CallR (Y.X a) (.builtin "sorted") (fun xs H Q => ∃ (a : Addr) (kvs : List (Key × V)) (ks : List Int), xs = [.ref a] ∧ Rd H a (.dK kvs) ∧ kvs.map (·.1) = ks.map Sum.inl ∧
    ∀ (ys : List Int) (p : Addr), ys.Perm ks → ys.Pairwise (· ≤ ·) → H p = none → Q (.ref p) (upd H p (.lst (ys.map V.int)))) := call_sortedKeys (Y.hc a)
theorem el_sortedD {ks ns : List Int} (B : BI Y "sorted" (.builtin "sorted")) (ha : ERd m Y σ W i e kvs j) (hk : kvs.map (·.1) = ks.map Sum.inl) (hp : ns.Perm ks) (hs : ns.Pairwise (· ≤ ·))
    (he : ∀ a, starEach [e] (Y.X a).env = (false, eval e (Y.X a).env) :: starEach [] (Y.X a).env := by intro _; rfl) (hpl : ∀ a, (backTo pos (starEach [] (Y.X a).env)).any (·.1) = false := by intro _; rfl) :
    EL m Y σ W i (.Call (.Name "sorted" p) [e] [] pos) (ns.map .int) j := fun U h1 r Q z =>
  ⟨_, fun t => pe_callB (cSortK t) (B.g.gl t) (by rw [Y.hmg]; exact B.m) B.v (pa_cons (wE_ok (e := e) t) pa_nil (he t)) (by decide) (by decide) (he t) (hpl t), ha U h1 r _ fun v T l1 r1 ⟨q, vs, e1, e2, e3⟩ => by
    subst e1
    refine ⟨q, vs, ks, rfl, Rd.of (e2 T (Le.refl T)), e3.keys.trans hk, fun ys p g1 g2 g3 => ?_⟩
    have e5 : ys = ns := sorted_unique (g1.trans hp.symm) g2 hs
    subst e5
    exact z (.ref p) (T.own p _ g3) (l1.trans (Le.own g3)) (m.le0 r1 (Le.own g3)) ⟨p, _, rfl, l1.back g3, T.fnone g3, upd_same, dpInts _⟩⟩
/-- tuple of a list, the object known -/
theorem e_tupP (B : BI Y "tuple" (.type "tuple")) (ha : ERl m Y σ W i e ds j) (he : ∀ a, starEach [e] (Y.X a).env = (false, eval e (Y.X a).env) :: starEach [] (Y.X a).env := by intro _; rfl) (hpl : ∀ a, (backTo pos (starEach [] (Y.X a).env)).any (·.1) = false := by intro _; rfl) :
    E m Y σ W i (.Call (.Name "tuple" p) [e] [] pos) (.pt ds) j := fun U h1 r Q z =>
  ⟨tCB (fun xs H Q => ∃ p ys, xs = [.ref p] ∧ SqL Y.K H p ys ∧ ∀ l ob, ob.cls = .type "tuple" → ob.dict = none → H l = none → Q (.ref l) (upd H l (.frz ob (.tup ys)))) (tCons (wE Y e) tNil), fun t => pe_callTy (by
    have h := call_tupleP (X := Y.X t)
    rw [Y.hK t] at h
    exact h) (B.g.gl t) (by rw [Y.hmg]; exact B.m) B.v (pa_cons (wE_ok t) pa_nil (he t)) (by decide) (by decide) (he t) (hpl t), ha U h1 r _ fun v T l1 r1 ⟨q, vs, e1, e2, e3⟩ => by
    subst e1
    refine ⟨q, vs, rfl, e2 T (Le.refl T), fun l ob hc hd hl => ?_⟩
    exact z (.ref l) (T.frz l _ hl) (l1.trans (Le.frz hl)) (m.le0 r1 (Le.frz hl)) ⟨l, ob, vs, rfl, upd_same, hc, hd, e3.mono (upd_none (T.fnone hl))⟩⟩
theorem E.ptT (h : E m Y σ W i e (.pt ds) j) : E m Y σ W i e (.d (.tuple ds)) j := EG.imp h fun _ _ _ _ _ _ _ q => q.pt
/-- way.count(n) -/
theorem e_count {ns : List Int} {g : Int} {o : Expr} (ho : E m Y σ W i o (.pt (ns.map .int)) j) (ha : E m Y σ W j e (.d (.int g)) k)
    (hbase : ∀ a, attributeBase o "count" (Y.X a).env (eval o (Y.X a).env) = eval o (Y.X a).env := by intro _; rfl)
    (hfew : ∀ a, ((backTo cp (starEach [e] (Y.X a).env)).all (fun x => !x.1) && (backToKw cp (keywordEach [] (Y.X a).env)).all (fun x => x.1.isSome) && decide ([e].length + ([] : List Keyword).length + (if ([] : List Keyword).isEmpty then 0 else 1) < 30)) = true := by intro _; rfl)
    (hline : (ap.endLine == cp.line) = true := by rfl) (hst : ∀ a, starEach [e] (Y.X a).env = (false, eval e (Y.X a).env) :: starEach [] (Y.X a).env := by intro _; rfl) (hpl : ∀ a, (backTo cp (starEach [] (Y.X a).env)).any (·.1) = false := by intro _; rfl) :
    E m Y σ W i (.Call (.Attribute o "count" ap) [e] [] cp) (.d (.int (ns.count g : Nat))) k := fun U h1 r Q z =>
  ⟨_, fun a => pe_tcount (wE_ok a) (pa_cons (wE_ok a) pa_nil (hst a)) (hbase a) (hfew a) hline (hst a) (hpl a), ho U h1 r _ fun v T l1 r1 ⟨q, ob, vs, e1, e2, e3, e4, e5⟩ => by
    have e6 := e5.ints
    subst e6
    refine ⟨q, ob, ns, e1, T.sub _ _ e2, e3, e4, ?_⟩
    refine ha T (h1.trans l1) r1 _ fun v2 T2 l2 r2 p2 => ⟨g, by rw [p2.int], T2.sub _ _ (l2.f _ _ e2), ?_⟩
    exact z _ T2 (l1.trans l2) r2 (Dp.int _)⟩
/-- t[::-1] -/
theorem e_revT {q' : Nat} {p1 p2 p3 : Pos} (ha : E m Y σ W i a (.d (.tuple ds)) j) : E m Y σ W i (.Subscript a (.Slice none none (some (.UnaryOp .USub (.Constant (.int 1) q' p1) p2)) p3) pos) (.d (.tuple ds.reverse)) j := fun U le r Q z =>
  ⟨tRevT Y.K (wE Y a), fun t => by
    have h := pe_revT (X := Y.X t) (k := q') (p1 := p1) (p2 := p2) (p3 := p3) (pos := pos) (wE_ok (e := a) t)
    rw [Y.hK t] at h
    exact h, ha U le r _ fun v1 T l1 r1 p1 => by
    obtain ⟨q, vs, e1, e2, e3⟩ := Is.tup p1
    refine ⟨q, vs, e1, sqT_sub T e2, fun p hp => ?_⟩
    exact z (.ref p) (T.frz p _ hp) (l1.trans (Le.frz hp)) (m.le0 r1 (Le.frz hp)) (Dp.tup (SqT.of upd_same) ((e3.rev).mono (upd_none (T.fnone hp))))⟩
/-- t * n -/
theorem DpAll.rep {K : PySem.W.Frag} {F : Hp} {vs : List V} (h : DpAll K F vs ds) : ∀ k : Nat, DpAll K F (List.replicate k vs).flatten (List.replicate k ds).flatten
  | 0 => .nil
  | k + 1 => by
    rw [List.replicate_succ, List.replicate_succ, List.flatten_cons, List.flatten_cons]
    exact h.app (DpAll.rep h k)
theorem e_mulT {g : Int} (ha : E m Y σ W i a (.d (.tuple ds)) j) (hb : E m Y σ W j b (.d (.int g)) k) (hne : ds ≠ []) (h0 : 0 ≤ g ∧ g ≤ 1000) (hl : ds.length ≤ 1000) : E m Y σ W i (.BinOp a .Mult b pos) (.d (.tuple (List.replicate g.toNat ds).flatten)) k := fun U l r Q z =>
  ⟨tOp (rRepA Y.K) _ _, fun t => pe_op (by have h := op_repA (X := Y.X t); rw [Y.hK t] at h; exact h) (wE_ok t) (wE_ok t), ha U l r _ fun v1 T1 l1 r1 p1 => hb T1 (l.trans l1) r1 _ fun v2 T2 l2 r2 p2 => by
    obtain ⟨q, vs, e1, e2, e3⟩ := Is.tup p1
    have sq : SqT Y.K T2.F q vs := Evl.ex_t l2.f e2
    refine ⟨q, g, vs, e1, p2.int, sqT_sub T2 sq, fun w => hne ?_, h0.1, h0.2, by rw [e3.len]; exact hl, fun h1 => ?_, fun h1 p hp => ?_⟩
    · have := e3.len
      rw [w] at this
      exact List.eq_nil_of_length_eq_zero this.symm
    · subst h1
      refine z _ T2 (l1.trans l2) r2 ?_
      show Dp Y.K T2.F (V.ref q) (.tuple (List.replicate 1 ds).flatten)
      rw [List.replicate_one, List.flatten_singleton]
      exact Dp.tup sq (e3.mono l2.f)
    · exact z (.ref p) (T2.frz p _ hp) ((l1.trans l2).trans (Le.frz hp)) (m.le0 r2 (Le.frz hp)) (Dp.tup (SqT.of upd_same) ((DpAll.rep (e3.mono l2.f) _).mono (upd_none (T2.fnone hp))))⟩
/-- t + u -/
theorem e_catT {es' : List PD} (ha : E m Y σ W i a (.d (.tuple ds)) j) (hb : E m Y σ W j b (.d (.tuple es')) k) (hl : ds.length + es'.length ≤ 100000) : E m Y σ W i (.BinOp a .Add b pos) (.d (.tuple (ds ++ es'))) k := fun U l r Q z =>
  ⟨tOp (rCatA Y.K) _ _, fun t => pe_op (by have h := op_catA (X := Y.X t); rw [Y.hK t] at h; exact h) (wE_ok t) (wE_ok t), ha U l r _ fun v1 T1 l1 r1 p1 => hb T1 (l.trans l1) r1 _ fun v2 T2 l2 r2 p2 => by
    obtain ⟨q, vs, e1, e2, e3⟩ := Is.tup p1
    obtain ⟨q2, us, f1, f2, f3⟩ := Is.tup p2
    have sq : SqT Y.K T2.F q vs := Evl.ex_t l2.f e2
    have hd := e3.mono l2.f
    refine ⟨q, q2, vs, us, e1, f1, sqT_sub T2 sq, sqT_sub T2 f2, Evl.sz_of (by rw [e3.len, f3.len]; exact hl), fun h => ?_, fun _ h => ?_, fun _ _ p hp => ?_⟩
    · subst h
      cases hd
      exact z _ T2 (l1.trans l2) r2 (Dp.tup f2 f3)
    · subst h
      cases f3
      refine z _ T2 (l1.trans l2) r2 ?_
      show Dp Y.K T2.F (V.ref q) (.tuple (ds ++ []))
      rw [List.append_nil]
      exact Dp.tup sq hd
    · exact z (.ref p) (T2.frz p _ hp) ((l1.trans l2).trans (Le.frz hp)) (m.le0 r2 (Le.frz hp)) (Dp.tup (SqT.of upd_same) ((hd.app f3).mono (upd_none (T2.fnone hp))))⟩
/-- dict of a list of pairs (whole number, value), no number twice -/
theorem mergeK_fresh : ∀ (more kvs : List (Key × V)), ((kvs ++ more).map (·.1)).Nodup → mergeK kvs more = kvs ++ more
  | [], kvs, _ => by rw [List.append_nil]; rfl
  | p :: more, kvs, h => by
    show mergeK (putK kvs p.1 p.2) more = _
    have hn : valV kvs p.1 = none := by
      cases e : valV kvs p.1 with
      | none => rfl
      | some w =>
        have e2 : (kvs.any fun kv => decide (kv.1 = p.1)) = true := by
          rw [valV_any, e]
          rfl
        obtain ⟨r, hr, hq⟩ := List.any_eq_true.mp e2
        rw [List.map_append, List.nodup_append] at h
        exact absurd (of_decide_eq_true hq) (h.2.2 r.1 (List.mem_map.mpr ⟨r, hr, rfl⟩) p.1 (by simp))
    rw [putK_new _ hn, mergeK_fresh more (kvs ++ [(p.1, p.2)]) (by simpa using h)]
    simp
theorem pairs_back {K : PySem.W.Frag} {F : Hp} {g : Int → PD} : ∀ {ns : List Int} {vs : List V}, DpAll K F vs (ns.map fun n => .tuple [.int n, g n]) →
    ∃ (ps : List Addr) (kvs : List (Key × V)), vs = ps.map V.ref ∧ Paired (fun p kv => SqT K F p [kV kv.1, kv.2]) ps kvs ∧ KVD K F kvs (ns.map fun n => (.inl n, g n))
  | [], _, .nil => ⟨[], [], rfl, .nil, .nil⟩
  | n :: ns, _, .cons a b => by
    obtain ⟨ps, kvs, h1, h2, h3⟩ := pairs_back (ns := ns) b
    obtain ⟨q, us, e1, e2, e3⟩ := Is.tup a
    cases e3 with
    | cons w1 w2 =>
      cases w2 with
      | cons w3 w4 =>
        cases w4
        cases w1
        subst e1 h1
        exact ⟨q :: ps, (.inl n, _) :: kvs, rfl, .cons e2 h2, .cons ⟨rfl, w3⟩ h3⟩
theorem cDict (a : Y.α) : CallR (Y.X a) (.type "dict") (fun xs H Q => ∃ (a : Addr) (ps : List Addr) (kvs : List (Key × V)), xs = [.ref a] ∧ SqL Y.K H a (ps.map V.ref) ∧ Paired (fun p kv => SqT Y.K H p [kV kv.1, kv.2]) ps kvs ∧
    ∀ p, H p = none → Q (.ref p) (upd H p (.dK (mergeK [] kvs)))) := by
  have h := call_dictP (X := Y.X a) (Y.hc a)
  rw [Y.hK a] at h
  exact h
theorem ed_dict {ns : List Int} {g : Int → PD} (B : BI Y "dict" (.type "dict")) (ha : ERl m Y σ W i e (ns.map fun n => .tuple [.int n, g n]) j) (hn : ns.Nodup)
    (he : ∀ a, starEach [e] (Y.X a).env = (false, eval e (Y.X a).env) :: starEach [] (Y.X a).env := by intro _; rfl) (hpl : ∀ a, (backTo pos (starEach [] (Y.X a).env)).any (·.1) = false := by intro _; rfl) :
    ED m Y σ W i (.Call (.Name "dict" p) [e] [] pos) (ns.map fun n => (.inl n, g n)) j := fun U h1 r Q z =>
  ⟨_, fun t => pe_callTy (cDict t) (B.g.gl t) (by rw [Y.hmg]; exact B.m) B.v (pa_cons (wE_ok (e := e) t) pa_nil (he t)) (by decide) (by decide) (he t) (hpl t), ha U h1 r _ fun v T l1 r1 ⟨q, vs, e1, e2, e3⟩ => by
    subst e1
    obtain ⟨ps, kvs, g1, g2, g3⟩ := pairs_back e3
    subst g1
    refine ⟨q, ps, kvs, rfl, e2 T (Le.refl T), Paired.mapP g2 fun p kv h => sqT_sub T h, fun p hp => ?_⟩
    have ek : kvs.map (·.1) = ns.map Sum.inl := by
      rw [g3.keys, List.map_map]
      rfl
    have em : mergeK [] kvs = kvs := by
      have := mergeK_fresh kvs [] (by rw [List.nil_append, ek]; exact List.Pairwise.map _ (fun a b hab hc => hab (Sum.inl.inj hc)) hn)
      rw [this, List.nil_append]
    rw [em]
    exact z (.ref p) (T.own p _ hp) (l1.trans (Le.own hp)) (m.le0 r1 (Le.own hp)) ⟨p, _, rfl, l1.back hp, T.fnone hp, upd_same, g3⟩⟩
/-- arguments by words on each value -/
def EAG (m : Mode) (Y : Fam) (σ : L2.St) (W : Wd) (i : m.ι) (es : List Expr) (P : Wd → List V → Wd → Prop) (j : m.ι) : Prop :=
  ∀ U, Le m.M W U → m.R i U → ∀ Q : List V → Hp → Prop, (∀ vs T, Le m.M U T → m.R j T → P U vs T → Q vs T.H) → wA Y es σ U.H Q
theorem eg_nil : EAG m Y σ W i [] (fun _ vs _ => vs = []) i := fun U _ r Q q => ⟨tNil, fun _ => pa_nil, q [] U (Le.refl U) r rfl⟩
theorem eg_cons {P : Wd → V → Wd → Prop} {P' : Wd → List V → Wd → Prop} (ha : EG m Y σ W i e P j) (hb : EAG m Y σ W j es P' k)
    (hs : ∀ a, starEach (e :: es) (Y.X a).env = (false, eval e (Y.X a).env) :: starEach es (Y.X a).env := by intro _; rfl) :
    EAG m Y σ W i (e :: es) (fun U vs T => ∃ v r T1, vs = v :: r ∧ Le m.M U T1 ∧ P U v T1 ∧ Le m.M T1 T ∧ P' T1 r T) k := fun U h1 r Q q =>
  ⟨_, fun a => pa_cons (wE_ok a) (wA_ok a) (hs a), ha U h1 r _ fun v T1 l1 r1 p1 => hb T1 (h1.trans l1) r1 _ fun vs T2 l2 r2 p2 => q (v :: vs) T2 (l1.trans l2) r2 ⟨v, vs, T1, rfl, l1, p1, l2, p2⟩⟩
/-- a, b, c = x, y, z, plain locals -/
theorem s_par3G {s1 s2 s3 : Str} {n1 n2 n3 q1 q2 : Nat} {a b c : Expr} {px py pz pt pt2 : Pos} {P : Wd → List V → Wd → Prop} (ha : EAG m Y σ W i [a, b, c] P j) (r : m.R i W)
    (hi : Y.N[n1]? = some s1) (hj : Y.N[n2]? = some s2) (hl : Y.N[n3]? = some s3) (h12 : n1 ≠ n2) (h13 : n1 ≠ n3) (h23 : n2 ≠ n3) (hx : Y.sc.names.lookup s1 = some .local) (hy : Y.sc.names.lookup s2 = some .local) (hz : Y.sc.names.lookup s3 = some .local)
    (k : ∀ vs T, Le m.M W T → m.R j T → P W vs T → ∃ v1 v2 v3, vs = [v1, v2, v3] ∧ wSs Y rest D (((σ.set n1 (some v1)).set n2 (some v2)).set n3 (some v3)) T.H)
    (hw : ∀ t, swappedStores [.Tuple [.Name s1 px, .Name s2 py, .Name s3 pz] q1 pt] (.Tuple [a, b, c] q2 pt2) (Y.X t).env = pure (some [s1, s2, s3]) := by intro _; rfl)
    (hs : ∀ t, swapsWithSole [.Tuple [.Name s1 px, .Name s2 py, .Name s3 pz] q1 pt] (.Tuple [a, b, c] q2 pt2) p.line (Y.X t).env = pure false := by intro _; rfl) :
    wSs Y (.Assign [.Tuple [.Name s1 px, .Name s2 py, .Name s3 pz] q1 pt] (.Tuple [a, b, c] q2 pt2) p :: rest) D σ W.H :=
  ⟨_, fun t => pss_cons (ps_par3 (Y.hc t) (by rw [Y.hN]; exact Y.nd) (by rw [Y.hN]; exact hi) (by rw [Y.hN]; exact hj) (by rw [Y.hN]; exact hl) h12 h13 h23 (by rw [Y.hsc]; exact hx) (by rw [Y.hsc]; exact hy) (by rw [Y.hsc]; exact hz) (wA_ok t) (hw t) (hs t)) (wSs_ok t),
    ha W (Le.refl W) r _ fun vs T l1 r1 p1 => k vs T l1 r1 p1⟩
theorem s_par2G {s1 s2 : Str} {n1 n2 q1 q2 : Nat} {a b : Expr} {px py pt pt2 : Pos} {P : Wd → List V → Wd → Prop} (ha : EAG m Y σ W i [a, b] P j) (r : m.R i W) (hi : Y.N[n1]? = some s1) (hj : Y.N[n2]? = some s2) (hij : n1 ≠ n2)
    (hx : Y.sc.names.lookup s1 = some .local) (hy : Y.sc.names.lookup s2 = some .local) (k : ∀ vs T, Le m.M W T → m.R j T → P W vs T → ∃ v1 v2, vs = [v1, v2] ∧ wSs Y rest D ((σ.set n1 (some v1)).set n2 (some v2)) T.H)
    (hw : ∀ c, swappedStores [.Tuple [.Name s1 px, .Name s2 py] q1 pt] (.Tuple [a, b] q2 pt2) (Y.X c).env = pure (some [s1, s2]) := by intro _; rfl)
    (hs : ∀ c, swapsWithSole [.Tuple [.Name s1 px, .Name s2 py] q1 pt] (.Tuple [a, b] q2 pt2) p.line (Y.X c).env = pure false := by intro _; rfl) :
    wSs Y (.Assign [.Tuple [.Name s1 px, .Name s2 py] q1 pt] (.Tuple [a, b] q2 pt2) p :: rest) D σ W.H :=
  ⟨_, fun c => pss_cons (ps_par (Y.hc c) (by rw [Y.hN]; exact Y.nd) (by rw [Y.hN]; exact hi) (by rw [Y.hN]; exact hj) hij (by rw [Y.hsc]; exact hx) (by rw [Y.hsc]; exact hy) (wA_ok c) (hw c) (hs c)) (wSs_ok c),
    ha W (Le.refl W) r _ fun vs T l1 r1 p1 => k vs T l1 r1 p1⟩
/-- == of texts -/
theorem c_eqs {t1 t2 : Str} (ha : E m Y σ W i a (.d (.str t1)) j) (hb : E m Y σ W j b (.d (.str t2)) k) : EC m Y σ W i (.Compare a [.Eq] [b] pos) (decide (t1 = t2)) k := fun U h1 r Q z =>
  ⟨_, fun a => cmpR op_eq (wE_ok a) (wE_ok a) (nomark _), ha U h1 r _ fun v1 T1 l1 r1 p1 => hb T1 (h1.trans l1) r1 _ fun v2 T2 l2 r2 p2 => by
    rw [p1.str, p2.str]
    refine ⟨rfl, ?_⟩
    have e : decide (V.str t1 = V.str t2) = decide (t1 = t2) := by
      by_cases h : t1 = t2 <;> simp [h]
    rw [e]
    exact z _ T2 (l1.trans l2) r2 (Dp.bl _)⟩
theorem c_nes {t1 t2 : Str} (ha : E m Y σ W i a (.d (.str t1)) j) (hb : E m Y σ W j b (.d (.str t2)) k) : EC m Y σ W i (.Compare a [.NotEq] [b] pos) (!decide (t1 = t2)) k := fun U h1 r Q z =>
  ⟨_, fun a => cmpR op_ne (wE_ok a) (wE_ok a) (nomark _), ha U h1 r _ fun v1 T1 l1 r1 p1 => hb T1 (h1.trans l1) r1 _ fun v2 T2 l2 r2 p2 => by
    rw [p1.str, p2.str]
    refine ⟨rfl, ?_⟩
    have e : decide (V.str t1 = V.str t2) = decide (t1 = t2) := by
      by_cases h : t1 = t2 <;> simp [h]
    rw [e]
    exact z _ T2 (l1.trans l2) r2 (Dp.bl _)⟩
end
end Pv
set_option Elab.async false
set_option linter.all false
set_option maxRecDepth 100000
set_option maxHeartbeats 4000000
namespace Pv
open PySem PySem.Spec PyProof.Rows L2
/-- a pure def, by its body -/
theorem fnPure {P : Program} {w : World} {K : PySem.W.Frag} {mg : Str → Option Value} {base : Heap} {x : Str} {st : Stmt} {f : Addr} {fd : FuncData} {N ps : List Str} {k : Nat} {R : List Sv → Sv → Prop} (F : FnD K x st f fd) (S : FnScope N ps (defScope st))
    (hl : ∀ xs y, R xs y → xs.length = ps.length)
    (hbody : ∀ (cdv : Value) (A : Around) (outer : List Env) (s : Shared) (H : Hp) (hr : RoomG k (A.deeper (envOfC x (defScope st) s.heap.objs.size f cdv))) (vs : List V) (W : Wd) (xs : List Sv) (y : Sv), AllIs K W.F vs xs → R xs y → ∀ D : Ends, (∀ v T, Le M0 W T → Is K T.F v y → D.rt v T.H) → (y = .d .none → ∀ σ T, Le M0 W T → D.nx σ T.H) →
      wSs (dFam P w K mg base N S.nd x (defScope st) f cdv A outer s H k hr) (defBody st) D (L2.start N vs) W.H) : FnG P w K mg base (k + 1) f fd ps (pureSp K R) :=
  fnG_of F S (fun vs H Q ⟨W, xs, y, _, ha, hR, _⟩ => ha.len.trans (hl xs y hR)) fun cdv A outer s H hr vs Q ⟨W, xs, y, hW, ha, hR, q⟩ => by
    subst hW
    refine hbody cdv A outer s W.H hr vs W xs y ha hR _ q ?_
    intro hy σ T l
    subst hy
    exact q .non T l Dp.non
/-- a def of the module -/
structure Fd (K : PySem.W.Frag) (mg : Str → Option Value) (s : Str) (st : Stmt) : Prop where
  ex : ∃ f fd, mg s = some (.ref f) ∧ FnD K s st f fd
abbrev fnOfS (s : Str) (st : Stmt) (kV doc pm : Value) (an : Option Addr) (cdv ct : Value) : FuncData := PySem.W.fnOf s s (defArgs st) (defBody st) (defScope st) .none kV doc pm an cdv ct
def BindOk (s : Str) (st : Stmt) (ps : List Str) : Prop := ∀ (kV doc pm : Value) (an : Option Addr) (cdv ct : Value) (us : List Value), us.length = ps.length → bindArgs (fnOfS s st kV doc pm an cdv ct) ⟨us, []⟩ = pure (ps.zip us)
def KwOk (s : Str) (st : Stmt) (ps ks : List Str) (ix : List Nat) : Prop := ∀ (kV doc pm : Value) (an : Option Addr) (cdv ct : Value) (us : List Value), us.length = ks.length → bindArgs (fnOfS s st kV doc pm an cdv ct) ⟨[], ks.zip us⟩ = pure (ps.zip (pickL ix us))
/-- a def that keeps its promise -/
structure Cl (P : Program) (w : World) (K : PySem.W.Frag) (mg : Str → Option Value) (base : Heap) (k : Nat) (s : Str) (st : Stmt) (ps : List Str) (sp : Spg) : Prop where
  b : BindOk s st ps
  ex : ∃ f fd, mg s = some (.ref f) ∧ FnD K s st f fd ∧ FnG P w K mg base k f fd ps sp
theorem Cl.of {P : Program} {w : World} {K : PySem.W.Frag} {mg : Str → Option Value} {base : Heap} {k : Nat} {s : Str} {st : Stmt} {ps : List Str} {sp : Spg} (F : Fd K mg s st) (b : BindOk s st ps) (h : ∀ f fd, FnD K s st f fd → FnG P w K mg base k f fd ps sp) : Cl P w K mg base k s st ps sp := by
  obtain ⟨f, fd, h1, h2⟩ := F.ex
  exact ⟨b, f, fd, h1, h2, h f fd h2⟩
theorem Cl.mono {P : Program} {w : World} {K : PySem.W.Frag} {mg : Str → Option Value} {base : Heap} {k k' : Nat} {s : Str} {st : Stmt} {ps : List Str} {sp : Spg} (C : Cl P w K mg base k s st ps sp) (h : k ≤ k') : Cl P w K mg base k' s st ps sp := by
  obtain ⟨f, fd, h1, h2, h3⟩ := C.ex
  exact ⟨C.b, f, fd, h1, h2, h3.mono h⟩
section
variable {m : Mode} {Y : Fam} {σ : L2.St} {W W' : Wd} {i j k l : m.ι} {e a b c : Expr} {es : List Expr} {rest body : List Stmt} {pos p p' : Pos} {x y z : Sv} {d d' : PD} {ds : List PD} {u v : Bool} {D : Ends} {s : Str} {n : Nat}
theorem kwBinds {K : PySem.W.Frag} {st : Stmt} {f : Addr} {fd : FuncData} {ps ks : List Str} {ix : List Nat} (F : FnD K s st f fd) (h : KwOk s st ps ks ix) (sh : Shared) (ws : List Value) (hl : ws.length = ks.length) : BindsTo sh fd ⟨[], ks.zip ws⟩ (ps.zip (pickL ix ws)) := by
  obtain ⟨oc, od, dV, kV, doc, pm, an, cdv, ct, osl, rfl, lk, hcd, hD, hK⟩ := F.ex
  rcases hD with ⟨_, rfl⟩ | ⟨e, _⟩
  · exact .of_eq (h kV doc pm an cdv ct ws hl)
  · exact absurd rfl e
theorem e_callD {q : Nat} {st : Stmt} {ps : List Str} {R : List Sv → Sv → Prop} {xs : List Sv} (C : Cl Y.P Y.w Y.K Y.mg Y.base q s st ps (pureSp Y.K R)) (ha : EA m Y σ W i (e :: es) xs j) (hR : R xs y) (hq : q ≤ Y.k := by exact Nat.le_of_ble_eq_true rfl) (hg : Gb Y s := by rfl) (hdb : (s == ("__debug__" : Str)) = false := by decide)
    (he : ∀ a, starEach (e :: es) (Y.X a).env = (false, eval e (Y.X a).env) :: starEach es (Y.X a).env := by intro _; rfl) (hpl : ∀ a, (backTo pos (starEach es (Y.X a).env)).any (·.1) = false := by intro _; rfl) :
    E m Y σ W i (.Call (.Name s p) (e :: es) [] pos) y j := by
  obtain ⟨f, fd, h1, h2, h3⟩ := C.ex
  exact e_call h3 hq hg h1 h2.kp (h2.bindsN C.b) ha hR hdb he hpl
theorem e_callKD {q : Nat} {st : Stmt} {ps ks : List Str} {R : List Sv → Sv → Prop} {xs : List Sv} {kws : List Keyword} {ix : List Nat} (C : Cl Y.P Y.w Y.K Y.mg Y.base q s st ps (pureSp Y.K R)) (hb : KwOk s st ps ks ix) (ha : EK m Y σ W i kws xs j) (hl : xs.length = ks.length) (hR : R (pickL ix xs) y) (hq : q ≤ Y.k := by exact Nat.le_of_ble_eq_true rfl) (hg : Gb Y s := by rfl) (hdb : (s == ("__debug__" : Str)) = false := by decide)
    (hall : ∀ a, (backToKw pos (keywordEach kws (Y.X a).env)).all (·.1.isSome) = true := by intro _; rfl) (hks : ∀ a, (backToKw pos (keywordEach kws (Y.X a).env)).filterMap (·.1) = ks := by intro _; rfl)
    (hpl : ∀ a, ((backTo pos (starEach [] (Y.X a).env)).any (·.1) || (backToKw pos (keywordEach kws (Y.X a).env)).any (·.1.isNone)) = false := by intro _; rfl) :
    E m Y σ W i (.Call (.Name s p) [] kws pos) y j := by
  obtain ⟨f, fd, h1, h2, h3⟩ := C.ex
  exact e_callk h3 hq hg h1 h2.kp (fun s ws hl => kwBinds h2 hb s ws hl) ha hl hR hdb hall hks hpl
def visB (sc : Scope) (s : Str) : Bool := match sc.names.lookup s with
  | some .local => true
  | some .cell => true
  | some .free => true
  | _ => false
theorem vis_of {sc : Scope} (h : visB sc s = true) : Vis sc s := by
  unfold visB at h
  unfold Vis
  cases q : sc.names.lookup s with
  | none => rw [q] at h; cases h
  | some t =>
    rw [q] at h
    cases t <;> simp_all
def locB (sc : Scope) (s : Str) : Bool := match sc.names.lookup s with
  | some .local => true
  | some .cell => true
  | _ => false
theorem loc_of {sc : Scope} (h : locB sc s = true) : L2.Loc sc s := by
  unfold locB at h
  unfold L2.Loc
  cases q : sc.names.lookup s with
  | none => rw [q] at h; cases h
  | some t =>
    rw [q] at h
    cases t <;> simp_all
/-- a local, its slot n -/
theorem e_v {v : V} (n : Nat) (h : Is Y.K W.F v x) (hN : Y.N[n]? = some s := by rfl) (hv : visB Y.sc s = true := by rfl) (hs : σ[n]? = some (some v) := by rfl) (hd : (s == ("__debug__" : Str)) = false := by decide) (hcd : (s == ("__classdict__" : Str)) = false := by decide) :
    E m Y σ W i (.Name s pos) x i := e_var hN (vis_of hv) hs h hd hcd
theorem e_vat {w : V} (n : Nat) (hN : Y.N[n]? = some s := by rfl) (hv : visB Y.sc s = true := by rfl) (hs : σ[n]? = some (some w) := by rfl) (hd : (s == ("__debug__" : Str)) = false := by decide) (hcd : (s == ("__classdict__" : Str)) = false := by decide) :
    EG m Y σ W i (.Name s pos) (fun _ v _ => v = w) i := e_at hN (vis_of hv) hs hd hcd
theorem rl_v {q : Addr} (n : Nat) (ho : OwnL Y.K W q ds) (hm : ¬ m.M q) (hN : Y.N[n]? = some s := by rfl) (hv : visB Y.sc s = true := by rfl) (hs : σ[n]? = some (some (.ref q)) := by rfl) (hd : (s == ("__debug__" : Str)) = false := by decide) (hcd : (s == ("__classdict__" : Str)) = false := by decide) :
    ERl m Y σ W i (.Name s pos) ds i := erl_own hN (vis_of hv) hs ho hm hd hcd
theorem rd_v {q : Addr} {kvs : List (Key × PD)} (n : Nat) (ho : OwnD Y.K W q kvs) (hm : ¬ m.M q) (hN : Y.N[n]? = some s := by rfl) (hv : visB Y.sc s = true := by rfl) (hs : σ[n]? = some (some (.ref q)) := by rfl) (hd : (s == ("__debug__" : Str)) = false := by decide) (hcd : (s == ("__classdict__" : Str)) = false := by decide) :
    ERd m Y σ W i (.Name s pos) kvs i := erd_own hN (vis_of hv) hs ho hm hd hcd
/-- name = e -/
theorem s_st (n : Nat) (he : E m Y σ W i e x j) (r : m.R i W) (k : ∀ v T, Le m.M W T → m.R j T → Is Y.K T.F v x → wSs Y rest D (σ.set n (some v)) T.H) (hi : Y.N[n]? = some s := by rfl) (hx : locB Y.sc s = true := by rfl)
    (hsw : ∀ a, swapsWith e (some (.Name s p')) p.line (Y.X a).env = pure false := by intro _; rfl) (hf : ∀ a, (Y.X a).fn s = true ∨ (Y.X a).env.scope.names.lookup s = some .local := by intro _; first | exact .inl rfl | exact .inr rfl) : wSs Y (.Assign [.Name s p'] e p :: rest) D σ W.H :=
  s_set he r hi (loc_of hx) k hsw hf
theorem s_stG {P : Wd → V → Wd → Prop} (n : Nat) (he : EG m Y σ W i e P j) (r : m.R i W) (k : ∀ v T, Le m.M W T → m.R j T → P W v T → wSs Y rest D (σ.set n (some v)) T.H) (hi : Y.N[n]? = some s := by rfl) (hx : locB Y.sc s = true := by rfl)
    (hsw : ∀ a, swapsWith e (some (.Name s p')) p.line (Y.X a).env = pure false := by intro _; rfl) (hf : ∀ a, (Y.X a).fn s = true ∨ (Y.X a).env.scope.names.lookup s = some .local := by intro _; first | exact .inl rfl | exact .inr rfl) : wSs Y (.Assign [.Name s p'] e p :: rest) D σ W.H :=
  s_setG he r hi (loc_of hx) k hsw hf
theorem g_n {Q : L2.St → Hp → Prop} {v : V} {H : Hp} (n : Nat) (h : Q (σ.set n (some v)) H) (hi : Y.N[n]? = some s := by rfl) (hx : locB Y.sc s = true := by rfl) (hf : ∀ a, (Y.X a).fn s = true ∨ (Y.X a).env.scope.names.lookup s = some .local := by intro _; first | exact .inl rfl | exact .inr rfl) : wG Y (.Name s p) v σ H Q :=
  g_name hi (loc_of hx) h hf
end
section
variable {Y : Fam} {σ : L2.St} {W W0 : Wd} {e : Expr} {rest : List Stmt} {p : Pos} {x y : Sv} {D : Ends} {i : m0.ι}
/-- return e, in a pure def -/
theorem s_ret0 (he : E m0 Y σ W i e x i) (l : Le M0 W0 W) (hD : ∀ v T, Le M0 W0 T → Is Y.K T.F v y → D.rt v T.H) (hxy : x = y := by rfl) : wSs Y (.Return (some e) p :: rest) D σ W.H :=
  s_ret (m := m0) he True.intro fun v T l1 _ h => hD v T (l.trans l1) (hxy ▸ h)
end
/-- a block's names, by a test -/
def blkB (N : List Str) (sc scope : Scope) (own : List (Str × Nat)) : Bool :=
  decide (scope.kind = .function) && scope.names.all (fun y => decide (scope.names.lookup y.1 = some y.2)) && own.all (fun p => decide (N[p.2]? = some p.1)) &&
  scope.names.all (fun y => decide (y.2 ≠ .free) || decide (sc.names.lookup y.1 = some .cell) || decide (sc.names.lookup y.1 = some .free)) &&
  scope.names.all (fun y => (decide (y.2 ≠ .local) && decide (y.2 ≠ .cell)) || decide (y.1 ∈ own.map (·.1)) || decide (y.1 ∉ N))
theorem blk_of {N : List Str} {sc scope : Scope} {own : List (Str × Nat)} (h : blkB N sc scope own = true) : BlkOk N sc scope own := by
  unfold blkB at h
  simp only [Bool.and_eq_true, Bool.or_eq_true, List.all_eq_true, decide_eq_true_eq] at h
  obtain ⟨⟨⟨⟨h1, h2⟩, h3⟩, h4⟩, h5⟩ := h
  refine ⟨h1, h2, h3, fun y hy hf => ?_, fun y hy hf => ?_⟩
  · rcases h4 y hy with (h | h) | h
    · exact absurd hf h
    · exact .inl h
    · exact .inr h
  · rcases h5 y hy with (h | h) | h
    · rcases hf with z | z
      · exact absurd z h.1
      · exact absurd z h.2
    · exact .inl h
    · exact .inr h
/-- items of mapped lists -/
theorem atI_nat {α : Type} {ds : List α} {k : Nat} {d : α} (h : ds[k]? = some d) : atI ds (k : Int) = some d := by
  have hk := (List.getElem?_eq_some_iff.mp h).1
  unfold atI
  have e : ixN ds.length (k : Int) = some k := by
    unfold ixN
    simp [hk]
  rw [e]
  exact h
theorem at_map {α : Type} {f : α → PD} {xs : List α} {k : Nat} {a : α} (h : xs[k]? = some a) : atI (xs.map f) (k : Int) = some (f a) := atI_nat (by rw [List.getElem?_map, h] <;> rfl)
end Pv
set_option Elab.async false
set_option linter.all false
set_option maxRecDepth 100000
set_option maxHeartbeats 4000000
namespace Pv
open PySem PySem.Spec PyProof.Rows L2 RZ
theorem Is.fl {K : PySem.W.Frag} {W T : Wd} (f : Fl W T) {v : V} {x : Sv} (q : Is K W.F v x) : Is K T.F v x := q.mono f
/-- the items of xs, by their data -/
def itE {α : Type} (K : PySem.W.Frag) (xs : List α) (enc : α → PD) : Nat → V → Wd → Prop := fun k x T => ∀ a, xs[k]? = some a → Dp K T.F x (enc a)
theorem EI.imp {m : Mode} {Y : Fam} {σ : L2.St} {W : Wd} {i j : m.ι} {tg iter : Expr} {n n' : Nat} {it it' : Nat → V → Wd → Prop} (h : EI m Y σ W i tg iter n it j) (hn : n = n') (hi : ∀ k x T, k < n → it k x T → it' k x T) : EI m Y σ W i tg iter n' it' j := fun U l r Z z => by
  subst hn
  exact h U l r Z fun J T l1 r1 ok => z J T l1 r1 ⟨ok.1, fun k hk T' hf => ⟨(ok.2 k hk T' hf).1, fun x H' hy => by
    obtain ⟨T2, e, l2, q⟩ := (ok.2 k hk T' hf).2 x H' hy
    exact ⟨T2, e, l2, hi k x T2 hk q⟩⟩⟩
section
variable {m : Mode} {Y : Fam} {σ : L2.St} {W W' : Wd} {i j k l : m.ι} {e a b c tg iter : Expr} {es : List Expr} {rest body : List Stmt} {pos p p' : Pos} {x y z : Sv} {d d' : PD} {ds : List PD} {u v : Bool} {D : Ends} {s : Str} {n : Nat} {α β : Type}
theorem ei_tupE {xs : List α} {enc : α → PD} (h : E m Y σ W i e (.d (.tuple (xs.map enc))) j) : EI m Y σ W i tg e xs.length (itE Y.K xs enc) j :=
  (ei_tup h).imp (List.length_map ..) fun k x T _ ⟨d, h1, h2⟩ a ha => by
    rw [List.getElem?_map, ha] at h1
    cases h1
    exact h2
theorem ei_lstE {xs : List α} {enc : α → PD} (h : E m Y σ W i e (.d (.list (xs.map enc))) j) : EI m Y σ W i tg e xs.length (itE Y.K xs enc) j :=
  (ei_list h).imp (List.length_map ..) fun k x T _ ⟨d, h1, h2⟩ a ha => by
    rw [List.getElem?_map, ha] at h1
    cases h1
    exact h2
def rgI (lo : Int) (n : Nat) : List Int := (List.range n).map fun (k : Nat) => lo + (k : Int)
theorem rgI_len {lo : Int} {n : Nat} : (rgI lo n).length = n := by simp [rgI]
theorem rgI_get {lo : Int} {n k : Nat} {a : Int} (h : (rgI lo n)[k]? = some a) : a = lo + (k : Int) := by
  unfold rgI at h
  rw [List.getElem?_map] at h
  have hk : k < n := by
    by_cases z : k < n
    · exact z
    · rw [List.getElem?_eq_none (by simp; omega)] at h
      cases h
  rw [List.getElem?_range hk] at h
  exact (Option.some.inj h).symm
theorem ei_rg1E {q : Int} (B : BI Y "range" (.type "range")) (ha : E m Y σ W i a (.d (.int q)) j) (h1 : -(2 ^ 62) ≤ q ∧ q < 2 ^ 62) (hs : ∀ c, starEach [a] (Y.X c).env = [(false, eval a (Y.X c).env)] := by intro _; rfl) :
    EI m Y σ W i tg (.Call (.Name "range" p) [a] [] pos) (rgI 0 q.toNat).length (itE Y.K (rgI 0 q.toNat) .int) j :=
  (ei_range1 B ha h1 hs).imp rgI_len.symm fun k x T hk h a ha => by
    rw [rgI_get ha, show x = _ from h]
    exact Dp.int _
theorem ei_rg2E {q w : Int} (B : BI Y "range" (.type "range")) (ha : E m Y σ W i a (.d (.int q)) j) (hb : E m Y σ W j b (.d (.int w)) k) (h1 : -(2 ^ 62) ≤ q ∧ q < 2 ^ 62 ∧ -(2 ^ 62) ≤ w ∧ w < 2 ^ 62)
    (hs : ∀ c, starEach [a, b] (Y.X c).env = [(false, eval a (Y.X c).env), (false, eval b (Y.X c).env)] := by intro _; rfl) (hs2 : ∀ c, starEach [b] (Y.X c).env = [(false, eval b (Y.X c).env)] := by intro _; rfl) :
    EI m Y σ W i tg (.Call (.Name "range" p) [a, b] [] pos) (rgI q (w - q).toNat).length (itE Y.K (rgI q (w - q).toNat) .int) k :=
  (ei_range2 B ha hb h1 hs hs2).imp rgI_len.symm fun k x T hk h a ha => by
    rw [rgI_get ha, show x = _ from h]
    exact Dp.int _
def rgS (lo st : Int) (n : Nat) : List Int := (List.range n).map fun (k : Nat) => lo + (k : Int) * st
theorem rgS_len {lo st : Int} {n : Nat} : (rgS lo st n).length = n := by simp [rgS]
theorem rgS_get {lo st : Int} {n k : Nat} {a : Int} (h : (rgS lo st n)[k]? = some a) : a = lo + (k : Int) * st := by
  unfold rgS at h
  rw [List.getElem?_map] at h
  have hk : k < n := by
    by_cases z : k < n
    · exact z
    · rw [List.getElem?_eq_none (by simp; omega)] at h
      cases h
  rw [List.getElem?_range hk] at h
  exact (Option.some.inj h).symm
theorem ei_rg3E {q w g : Int} {N : Nat} {l : m.ι} (B : BI Y "range" (.type "range")) (ha : E m Y σ W i a (.d (.int q)) j) (hb : E m Y σ W j b (.d (.int w)) k) (hc : E m Y σ W k c (.d (.int g)) l) (h1 : RgC q w g N)
    (hs : ∀ t, starEach [a, b, c] (Y.X t).env = (false, eval a (Y.X t).env) :: starEach [b, c] (Y.X t).env := by intro _; rfl) (hs2 : ∀ t, starEach [b, c] (Y.X t).env = (false, eval b (Y.X t).env) :: starEach [c] (Y.X t).env := by intro _; rfl) (hs3 : ∀ t, starEach [c] (Y.X t).env = (false, eval c (Y.X t).env) :: starEach [] (Y.X t).env := by intro _; rfl)
    (hpl : ∀ t, (backTo pos (starEach [b, c] (Y.X t).env)).any (·.1) = false := by intro _; rfl) :
    EI m Y σ W i tg (.Call (.Name "range" p) [a, b, c] [] pos) (rgS q g N).length (itE Y.K (rgS q g N) .int) l :=
  (ei_range3 B ha hb hc h1 hs hs2 hs3 hpl).imp rgS_len.symm fun k x T hk h a ha => by
    rw [rgS_get ha, show x = _ from h]
    exact Dp.int _
theorem ei_zipE {elts : List Expr} {q : Nat} {tp : Pos} {xs : List α} {ys : List β} {f : α → PD} {g : β → PD} (B : BI Y "zip" (.type "zip")) (ha : E m Y σ W i a (.d (.tuple (xs.map f))) j) (hb : E m Y σ W j b (.d (.tuple (ys.map g))) k)
    (hs : ∀ c, starEach [a, b] (Y.X c).env = (false, eval a (Y.X c).env) :: starEach [b] (Y.X c).env := by intro _; rfl) (hs2 : ∀ c, starEach [b] (Y.X c).env = (false, eval b (Y.X c).env) :: starEach [] (Y.X c).env := by intro _; rfl)
    (hpl : ∀ c, (backTo pos (starEach [b] (Y.X c).env)).any (·.1) = false := by intro _; rfl) :
    EI m Y σ W i (.Tuple elts q tp) (.Call (.Name "zip" p) [a, b] [] pos) (xs.zip ys).length (itE Y.K (xs.zip ys) fun r => .tuple [f r.1, g r.2]) k :=
  (ei_zipT B ha hb hs hs2 hpl).imp (by simp) fun k x T hk ⟨t, v1, v2, d1, d2, e1, e2, e3, e4, e5, e6⟩ a ha => by
    obtain ⟨a1, a2⟩ := a
    rw [List.getElem?_zip_eq_some] at ha
    rw [List.getElem?_map, ha.1] at e5
    rw [List.getElem?_map, ha.2] at e6
    cases e5
    cases e6
    subst e1
    exact Dp.tup e2 (.cons e3 (.cons e4 .nil))
theorem ei_enumLE {elts : List Expr} {q : Nat} {tp : Pos} {xs : List α} {f : α → PD} (B : BI Y "enumerate" (.type "enumerate")) (ha : E m Y σ W i a (.d (.list (xs.map f))) j)
    (hs : ∀ c, starEach [a] (Y.X c).env = [(false, eval a (Y.X c).env)] := by intro _; rfl) :
    EI m Y σ W i (.Tuple elts q tp) (.Call (.Name "enumerate" p) [a] [] pos) xs.zipIdx.length (itE Y.K xs.zipIdx fun r => .tuple [.int (r.2 : Int), f r.1]) j :=
  (ei_enumL B ha hs).imp (by simp) fun k x T hk ⟨t, v1, v2, d1, d2, e1, e2, e3, e4, e5, e6⟩ a ha => by
    obtain ⟨a1, a2⟩ := a
    rw [List.getElem?_zipIdx] at ha
    rw [List.getElem?_map] at e6
    cases q : xs[k]? with
    | none =>
      rw [q] at ha
      cases ha
    | some y =>
      rw [q] at ha e6
      cases ha
      cases e6
      subst e5 e1
      simp only [Nat.zero_add]
      exact Dp.tup e2 (.cons e3 (.cons e4 .nil))
theorem ei_enumTE {elts : List Expr} {q : Nat} {tp : Pos} {xs : List α} {f : α → PD} (B : BI Y "enumerate" (.type "enumerate")) (ha : E m Y σ W i a (.d (.tuple (xs.map f))) j)
    (hs : ∀ c, starEach [a] (Y.X c).env = [(false, eval a (Y.X c).env)] := by intro _; rfl) :
    EI m Y σ W i (.Tuple elts q tp) (.Call (.Name "enumerate" p) [a] [] pos) xs.zipIdx.length (itE Y.K xs.zipIdx fun r => .tuple [.int (r.2 : Int), f r.1]) j :=
  (ei_enumT B ha hs).imp (by simp) fun k x T hk ⟨t, v1, v2, d1, d2, e1, e2, e3, e4, e5, e6⟩ a ha => by
    obtain ⟨a1, a2⟩ := a
    rw [List.getElem?_zipIdx] at ha
    rw [List.getElem?_map] at e6
    cases q : xs[k]? with
    | none =>
      rw [q] at ha
      cases ha
    | some y =>
      rw [q] at ha e6
      cases ha
      cases e6
      subst e5 e1
      simp only [Nat.zero_add]
      exact Dp.tup e2 (.cons e3 (.cons e4 .nil))
/-! ### comprehensions over typed items -/
theorem el_lcE {elt : Expr} {ifs : List Expr} {scope : Scope} (own : List (Str × Nat)) {xs : List α} {enc : α → PD} (pr : α → Bool) (g : α → PD) (hi : EI m Y σ W i tg iter xs.length (itE Y.K xs enc) j) (hl : xs.length ≤ 100000)
    (ht : ∀ T0, Le m.M W T0 → ∀ a, a ∈ xs → ∀ x T, Fl W T → m.R j T → Is Y.K T.F x (.d (enc a)) → Turn1 m (Y.blk scope) tg elt ifs (own.map (·.2)) σ x T j (pr a) (g a)) (ok : blkB Y.N Y.sc scope own = true := by rfl)
    (hs : ∀ a, ∀ x, foldedSetIterable iter (Y.X a).env x = pure x := by intro _ _; rfl) :
    EL m Y σ W i (.ListComp elt [⟨tg, iter, ifs, 0⟩] scope pos) ((xs.filter pr).map g) j :=
  el_lc xs pr g hi hl (blk_of ok) (fun T0 l0 k a ha x T hf r hd => ht T0 l0 a (List.mem_of_getElem? ha) x T (l0.fl.trans hf) r (hd a ha)) hs
/-- .. no tests -/
theorem el_lcM {elt : Expr} {scope : Scope} (own : List (Str × Nat)) {xs : List α} {enc : α → PD} (g : α → PD) (hi : EI m Y σ W i tg iter xs.length (itE Y.K xs enc) j) (hl : xs.length ≤ 100000)
    (ht : ∀ T0, Le m.M W T0 → ∀ a, a ∈ xs → ∀ x T, Fl W T → m.R j T → Is Y.K T.F x (.d (enc a)) → ∃ σ2 : L2.St, (∀ Q : L2.St → Hp → Prop, Q σ2 T.H → wG (Y.blk scope) tg x (wipe σ (own.map (·.2))) T.H Q) ∧ wipe σ2 (own.map (·.2)) = wipe σ (own.map (·.2)) ∧ E m (Y.blk scope) σ2 T j elt (.d (g a)) j) (ok : blkB Y.N Y.sc scope own = true := by rfl)
    (hs : ∀ a, ∀ x, foldedSetIterable iter (Y.X a).env x = pure x := by intro _ _; rfl) :
    EL m Y σ W i (.ListComp elt [⟨tg, iter, [], 0⟩] scope pos) (xs.map g) j := by
  have h := el_lcE (m := m) (Y := Y) (σ := σ) (W := W) (i := i) (j := j) (tg := tg) (iter := iter) (pos := pos) (elt := elt) (ifs := []) (scope := scope) own (xs := xs) (enc := enc) (fun _ => true) g hi hl
    (fun T0 l0 a ha x T hf r hd => by
      obtain ⟨σ2, q1, q2, q3⟩ := ht T0 l0 a ha x T hf r hd
      exact ⟨σ2, q1, q2, ets_nil, fun _ => q3⟩) ok hs
  have e : xs.filter (fun _ => true) = xs := List.filter_eq_self.mpr fun _ _ => rfl
  rw [e] at h
  exact h
theorem s_setLcE {elt : Expr} {ifs : List Expr} {scope : Scope} {lp : Pos} (n : Nat) (own : List (Str × Nat)) {xs : List α} {enc : α → PD} (pr : α → Bool) (g : α → PD) (hi : EI m Y σ W i tg iter xs.length (itE Y.K xs enc) j) (hl : xs.length ≤ 100000)
    (ht : ∀ T0, Le m.M W T0 → ∀ a, a ∈ xs → ∀ x T, Fl W T → m.R j T → Is Y.K T.F x (.d (enc a)) → Turn1 m (Y.blk scope) tg elt ifs (own.map (·.2)) σ x T j (pr a) (g a)) (r : m.R i W)
    (k : ∀ q T, Le m.M W T → m.R j T → ¬ m.M q → OwnL Y.K T q ((xs.filter pr).map g) → wSs Y rest D (σ.set n (some (.ref q))) T.H)
    (hn : Y.N[n]? = some s := by rfl) (hx : Y.sc.names.lookup s = some .local := by rfl) (ok : blkB Y.N Y.sc scope own = true := by rfl)
    (hsw : ∀ a, swapsWith (.ListComp elt [⟨tg, iter, ifs, 0⟩] scope lp) (some (.Name s p')) p.line (Y.X a).env = pure true := by intro _; exact sw_true rfl rfl rfl (by decide +kernel))
    (hs : ∀ a, ∀ x, foldedSetIterable iter (Y.X a).env x = pure x := by intro _ _; rfl) :
    wSs Y (.Assign [.Name s p'] (.ListComp elt [⟨tg, iter, ifs, 0⟩] scope lp) p :: rest) D σ W.H :=
  s_setLc xs pr g hi hl (blk_of ok) (fun T0 l0 k a ha x T hf r hd => ht T0 l0 a (List.mem_of_getElem? ha) x T (l0.fl.trans hf) r (hd a ha)) r hn hx
    (fun q T us l1 r1 e1 e2 e3 e4 => k q T l1 r1 (m.nm r e1) ⟨e2, us, e3, e4⟩) hsw hs
/-! ### for, over typed items -/
theorem s_forE {xs : List α} {enc : α → PD} (Inv : Wd → List α → L2.St → Wd → m.ι → Prop) (hi : EI m Y σ W i tg iter xs.length (itE Y.K xs enc) j) (r : m.R i W) (h0 : ∀ T0, Le m.M W T0 → m.R j T0 → Inv T0 [] σ T0 j)
    (hs : ∀ T0, Le m.M W T0 → ∀ done a todo, xs = done ++ a :: todo → ∀ σ' T c, Fl T0 T → m.R c T → Inv T0 done σ' T c → ∀ x T', Le M0 T T' → m.R c T' → Is Y.K T'.F x (.d (enc a)) →
      wG Y tg x σ' T'.H fun σ2 H2 => wSs Y body { D with nx := fun σ3 H3 => ∃ V c', V.H = H3 ∧ Fl T0 V ∧ m.R c' V ∧ Inv T0 (done ++ [a]) σ3 V c', ct := fun σ3 H3 => ∃ V c', V.H = H3 ∧ Fl T0 V ∧ m.R c' V ∧ Inv T0 (done ++ [a]) σ3 V c', bk := fun σ3 H3 => wSs Y rest D σ3 H3 } σ2 H2)
    (hd : ∀ T0, Le m.M W T0 → ∀ σ' T c, Fl T0 T → m.R c T → Inv T0 xs σ' T c → wSs Y rest D σ' T.H) (hp : ∀ a, PassesOwn (model (Y.X a).prog (Y.X a).w) (Y.X a).A (Y.X a).env (Y.X a).xe := by intro _; exact PassesOwn.never)
    (hss : ∀ a, ∀ x, foldedSetIterable iter (Y.X a).env x = pure x := by intro _ _; rfl) : wSs Y (.For tg iter body [] p :: rest) D σ W.H :=
  s_for (fun T0 k σ' T c => Inv T0 (xs.take k) σ' T c) hi r (fun T0 l0 r0 => by simpa using h0 T0 l0 r0)
    (fun T0 l0 k σ' T c hk f1 r1 inv x T' l2 r2 hit => by
      have ha : xs[k]? = some xs[k] := by simp [hk]
      have tk : xs.take (k + 1) = xs.take k ++ [xs[k]] := by
        rw [List.take_add_one, ha] <;> rfl
      rw [tk]
      exact hs T0 l0 (xs.take k) xs[k] (xs.drop (k + 1)) (by simp) σ' T c f1 r1 inv x T' l2 r2 (hit _ ha))
    (fun T0 l0 σ' T c f1 r1 inv => hd T0 l0 σ' T c f1 r1 (by rw [List.take_length] at inv; exact inv)) hp hss
/-- a change at a new place -/
theorem Le.step {M : Addr → Prop} {W0 T T' : Wd} {q : Addr} (h : Le M W0 T) (h' : Le (MX M q) T T') (hq : W0.H q = none) : Le M W0 T' :=
  ⟨fun a o e => h'.f a o (h.f a o e), fun a o hm e => h'.h a o (fun z => by
    rcases z with z | z
    · exact hm z
    · rw [z, hq] at e
      cases e) (h.h a o hm e), fun a e k => h'.n a (h.n a e k) (h.k a k), fun a k => h'.k a (h.k a k)⟩
theorem OwnL.mx {K : PySem.W.Frag} {M : Addr → Prop} {W T : Wd} {l q : Addr} {ds : List PD} (h : OwnL K W l ds) (a : Le (MX M q) W T) (hm : ¬ M l) (hq : l ≠ q) : OwnL K T l ds := h.le a fun z => z.elim hm hq
theorem OwnD.mx {K : PySem.W.Frag} {M : Addr → Prop} {W T : Wd} {l q : Addr} {kvs : List (Key × PD)} (h : OwnD K W l kvs) (a : Le (MX M q) W T) (hm : ¬ M l) (hq : l ≠ q) : OwnD K T l kvs := h.le a fun z => z.elim hm hq
/-- return of a dict that the def owns -/
theorem s_retD {W0 : Wd} {q : Addr} {kvs : List (Key × PD)} {σ : L2.St} {W : Wd} {D : Ends} {rest : List Stmt} {p pos : Pos} {s : Str} {Y : Fam} (n : Nat) (ho : OwnD Y.K W q kvs) (l : Le M0 W0 W) (hq : W0.H q = none) (hD : ∀ v T, Le M0 W0 T → Is Y.K T.F v (.dk kvs) → D.rt v T.H)
    (hN : Y.N[n]? = some s := by rfl) (hv : visB Y.sc s = true := by rfl) (hs : σ[n]? = some (some (.ref q)) := by rfl) (hd : (s == ("__debug__" : Str)) = false := by decide) (hcd : (s == ("__classdict__" : Str)) = false := by decide) : wSs Y (.Return (some (.Name s pos)) p :: rest) D σ W.H := by
  obtain ⟨f, vs, h1, h2⟩ := ho
  refine ⟨_, fun a => pss_cons (ps_ret (wE_ok a)) (wSs_ok (ss := rest) a), ?_⟩
  refine e_vat (m := m0) (i := ()) (W := W) n hN hv hs hd hcd W (Le.refl W) True.intro _ fun v T l1 _ e => ?_
  subst e
  have hT : T.H q = some (.dK vs) := l1.h q _ (fun z => z) h1
  have fT : T.F q = none := l1.n q f (by rw [h1]; exact fun z => nomatch z)
  exact hD _ (T.ice q _ hT) ((l.trans l1).ice hq hT fT) ⟨q, vs, rfl, upd_same, (h2.mono l1.f).mono (upd_none fT)⟩
/-- a tuple of two, of three against names -/
theorem dp2 {K : PySem.W.Frag} {F : Hp} {x : V} {d1 d2 : PD} (h : Is K F x (.d (.tuple [d1, d2]))) : ∃ t v1 v2, x = .ref t ∧ SqT K F t [v1, v2] ∧ Is K F v1 (.d d1) ∧ Is K F v2 (.d d2) := by
  cases h with
  | tup h1 h2 =>
    cases h2 with
    | cons a b =>
      cases b with
      | cons c d =>
        cases d
        exact ⟨_, _, _, rfl, h1, a, c⟩
theorem dp3 {K : PySem.W.Frag} {F : Hp} {x : V} {d1 d2 d3 : PD} (h : Is K F x (.d (.tuple [d1, d2, d3]))) : ∃ t v1 v2 v3, x = .ref t ∧ SqT K F t [v1, v2, v3] ∧ Is K F v1 (.d d1) ∧ Is K F v2 (.d d2) ∧ Is K F v3 (.d d3) := by
  cases h with
  | tup h1 h2 =>
    cases h2 with
    | cons a b =>
      cases b with
      | cons c d =>
        cases d with
        | cons e f =>
          cases f
          exact ⟨_, _, _, _, rfl, h1, a, c, e⟩
end
end Pv
set_option Elab.async false
set_option linter.all false
set_option maxRecDepth 100000
set_option maxHeartbeats 4000000
namespace Pv
open PySem PySem.Spec PyProof.Rows L2 RZ
/-! ### shapes of data -/
def Shp (k : Nat) (d : PD) : Prop := d.canLay0 = true ∧ d.depth ≤ k
theorem shp_int {k : Nat} (n : Int) : Shp k (.int n) := ⟨rfl, Nat.zero_le _⟩
theorem shp_bl {k : Nat} (n : Bool) : Shp k (.bool n) := ⟨rfl, Nat.zero_le _⟩
theorem shp_non {k : Nat} : Shp k .none := ⟨rfl, Nat.zero_le _⟩
theorem shp_str {k : Nat} {s : Str} (h : PyData.strOk s = true) : Shp k (.str s) := ⟨by simpa [PyData.canLay0] using h, Nat.zero_le _⟩
theorem shp_all {k : Nat} : ∀ {ds : List PD}, (∀ d ∈ ds, Shp k d) → PyData.canLayAll0 ds = true ∧ PyData.depthAll ds ≤ k
  | [], _ => ⟨rfl, Nat.zero_le _⟩
  | d :: ds, h => by
    obtain ⟨h1, h2⟩ := shp_all (ds := ds) fun x hx => h x (List.mem_cons_of_mem _ hx)
    obtain ⟨h3, h4⟩ := h d List.mem_cons_self
    refine ⟨by simp [PyData.canLayAll0, h1, h3], ?_⟩
    simp only [PyData.depthAll]
    omega
theorem shp_list {k : Nat} {ds : List PD} (h : ∀ d ∈ ds, Shp k d) : Shp (k + 1) (.list ds) := by
  obtain ⟨h1, h2⟩ := shp_all h
  refine ⟨by simpa [PyData.canLay0] using h1, ?_⟩
  simp only [PyData.depth]
  omega
theorem shp_tup {k : Nat} {ds : List PD} (h : ∀ d ∈ ds, Shp k d) : Shp (k + 1) (.tuple ds) := by
  obtain ⟨h1, h2⟩ := shp_all h
  refine ⟨by simpa [PyData.canLay0] using h1, ?_⟩
  simp only [PyData.depth]
  omega
theorem shp_map {α : Type} {k : Nat} {xs : List α} {f : α → PD} (h : ∀ a, Shp k (f a)) : ∀ d ∈ xs.map f, Shp k d := fun d hd => by
  obtain ⟨a, _, rfl⟩ := List.mem_map.mp hd
  exact h a
theorem shp_nil {k : Nat} : ∀ d ∈ ([] : List PD), Shp k d := fun d h => by cases h
theorem shp_cons {k : Nat} {d : PD} {ds : List PD} (h : Shp k d) (h2 : ∀ x ∈ ds, Shp k x) : ∀ x ∈ d :: ds, Shp k x := fun x hx => by
  rcases List.mem_cons.mp hx with rfl | z
  · exact h
  · exact h2 x z
theorem Shp.mono {j k : Nat} {d : PD} (h : Shp j d) (hk : j ≤ k) : Shp k d := ⟨h.1, Nat.le_trans h.2 hk⟩
theorem Shp.ok {k : Nat} {d : PD} (h : Shp k d) (hk : k ≤ 64 := by exact Nat.le_of_ble_eq_true rfl) : SeqAt.shaped d = true := by
  unfold SeqAt.shaped
  rw [h.1, decide_eq_true (Nat.le_trans h.2 hk)]
  rfl
theorem shaped_ints (ns : List Int) : SeqAt.shaped (.list (ns.map .int)) = true := (shp_list (k := 0) (shp_map shp_int)).ok
theorem eqv_nilL (ds : List PD) : PyData.eqv (.list ds) (.list []) = ds.isEmpty := by
  cases ds <;> rfl
theorem eqv_nilT (ds : List PD) : PyData.eqv (.tuple ds) (.tuple []) = ds.isEmpty := by
  cases ds <;> rfl
/-- sorted of a list that may be read now -/
theorem el_sortedR {m : Mode} {Y : Fam} {σ : L2.St} {W : Wd} {i j : m.ι} {e : Expr} {p pos : Pos} {ns ns' : List Int} (B : BI Y "sorted" (.builtin "sorted")) (ha : ERl m Y σ W i e (ns.map .int) j) (hp : ns'.Perm ns) (hs : ns'.Pairwise (· ≤ ·))
    (he : ∀ a, starEach [e] (Y.X a).env = (false, eval e (Y.X a).env) :: starEach [] (Y.X a).env := by intro _; rfl) (hpl : ∀ a, (backTo pos (starEach [] (Y.X a).env)).any (·.1) = false := by intro _; rfl) :
    EL m Y σ W i (.Call (.Name "sorted" p) [e] [] pos) (ns'.map .int) j := fun U h1 r Q z =>
  ⟨_, fun t => pe_callB (cSortI t) (B.g.gl t) (by rw [Y.hmg]; exact B.m) B.v (pa_cons (wE_ok (e := e) t) pa_nil (he t)) (by decide) (by decide) (he t) (hpl t), ha U h1 r _ fun v T l1 r1 ⟨q, us, e1, e2, e3⟩ => by
    subst e1
    have e4 := e3.ints
    subst e4
    refine ⟨q, ns, rfl, e2 T (Le.refl T), fun zs p h1 h2 h3 => ?_⟩
    have e5 : zs = ns' := sorted_unique (h1.trans hp.symm) h2 hs
    subst e5
    exact z (.ref p) (T.own p _ h3) (l1.trans (Le.own h3)) (m.le0 r1 (Le.own h3)) ⟨p, _, rfl, l1.back h3, T.fnone h3, upd_same, dpInts zs⟩⟩
/-! ### max of three -/
section
variable {m : Mode} {Y : Fam} {σ : L2.St} {W W' : Wd} {i j k l : m.ι} {e a b c : Expr} {pos p p' : Pos}
def mx2 (a b : Int) : Int := if b > a then b else a
theorem mx2_max (a b : Int) : mx2 a b = max a b := by
  unfold mx2
  split <;> omega
theorem nuMax3_int (a b c : Int) : nuMax3 (.int a) (.int b) (.int c) = some (.int (mx2 (mx2 a b) c)) := by
  have h2 : ∀ x y : Int, nuMax2 (.int x) (.int y) = some (.int (mx2 x y)) := fun x y => by
    show (some (decide (x < y))).map (fun c => if c = true then V.int y else V.int x) = _
    unfold mx2
    by_cases h : x < y <;> simp [h]
  show (nuMax2 (.int a) (.int b)).bind (fun m => nuMax2 m (.int c)) = _
  rw [h2]
  exact h2 _ _
theorem e_max3 {n q r : Int} (B : BI Y "max" (.builtin "max")) (ha : E m Y σ W i a (.d (.int n)) j) (hb : E m Y σ W j b (.d (.int q)) k) (hc : E m Y σ W k c (.d (.int r)) l) (he : ∀ t, starEach [a, b, c] (Y.X t).env = (false, eval a (Y.X t).env) :: starEach [b, c] (Y.X t).env := by intro _; rfl) (he2 : ∀ t, starEach [b, c] (Y.X t).env = (false, eval b (Y.X t).env) :: starEach [c] (Y.X t).env := by intro _; rfl) (he3 : ∀ t, starEach [c] (Y.X t).env = (false, eval c (Y.X t).env) :: starEach [] (Y.X t).env := by intro _; rfl)
    (hpl : ∀ t, (backTo pos (starEach [b, c] (Y.X t).env)).any (·.1) = false := by intro _; rfl) : E m Y σ W i (.Call (.Name "max" p) [a, b, c] [] pos) (.d (.int (mx2 (mx2 n q) r))) l := e_cb B (fun t => call_max3Nu (Y.hc t)) (ea_cons ha (ea_cons hb (ea_cons hc ea_nil he3) he2) he) (fun T vs Q h z => by
  obtain ⟨v, w, u, rfl, h1, h2, h3⟩ := h.inv3
  refine ⟨v, w, u, .int (mx2 (mx2 n q) r), rfl, ?_, z _ T (Le.refl T) (Dp.int _)⟩
  rw [h1.int, h2.int, h3.int]
  exact nuMax3_int n q r) (he := he) (hpl := hpl)
end
end Pv
set_option Elab.async false
set_option linter.all false
set_option maxRecDepth 100000
set_option maxHeartbeats 4000000
namespace Pv
open PySem PySem.Spec PyProof.Rows L2
open Classical in
noncomputable def pick {α : Type} (p : Prop) (x y : α) : α := if p then x else y
theorem pick_t {α : Type} {p : Prop} {x y : α} (h : p) : pick p x y = x := by
  unfold pick
  exact if_pos h
theorem pick_f {α : Type} {p : Prop} {x y : α} (h : ¬ p) : pick p x y = y := by
  unfold pick
  exact if_neg h
/-! ### things lent to the abstract heap, and taken back -/
abbrev anyO : HO := .ext fun _ => True
noncomputable def lendH (H : Hp) (cs : Addr → Prop) (ob : Addr → Obj) : Hp := fun a => pick (cs a) (some (.frz (ob a) anyO)) (H a)
noncomputable def delL (H : Hp) (cs : Addr → Prop) : Hp := fun a => pick (cs a) none (H a)
theorem lend_in {H : Hp} {cs : Addr → Prop} {ob : Addr → Obj} {a : Addr} (h : cs a) : lendH H cs ob a = some (.frz (ob a) anyO) := pick_t h
theorem lend_out {H : Hp} {cs : Addr → Prop} {ob : Addr → Obj} {a : Addr} (h : ¬ cs a) : lendH H cs ob a = H a := pick_f h
theorem del_in {H : Hp} {cs : Addr → Prop} {a : Addr} (h : cs a) : delL H cs a = none := pick_t h
theorem del_out {H : Hp} {cs : Addr → Prop} {a : Addr} (h : ¬ cs a) : delL H cs a = H a := pick_f h
theorem hok_lend {P : Program} {w : World} {H : Hp} {h : Heap} {cs : Addr → Prop} {ob : Addr → Obj} (x : HOk P w H h) (hg : ∀ c, cs c → h.get? c = some (ob c)) (hn : ∀ c, cs c → H c = none) : HOk P w (lendH H cs ob) h := fun a o e => by
  by_cases hc : cs a
  · rw [lend_in hc] at e
    cases e
    exact ⟨hg a hc, True.intro, ⟨_, hg a hc⟩, fun _ _ _ _ => True.intro⟩
  · rw [lend_out hc] at e
    have up : ∀ b u, H b = some u → lendH H cs ob b = some u := fun b u q => by
      rw [lend_out fun z => by rw [hn b z] at q; cases q]
      exact q
    exact (x a o e).stay (fun b u _ q => q) (fun b q => up b _ q) fun b xs q => up b _ q
theorem hok_del {P : Program} {w : World} {H : Hp} {h : Heap} {cs : Addr → Prop} (x : HOk P w H h) (hc : ∀ c, cs c → ∃ o u, H c = some (.frz o u)) : HOk P w (delL H cs) h := fun a o e => by
  by_cases ha : cs a
  · rw [del_in ha] at e
    cases e
  · rw [del_out ha] at e
    refine (x a o e).stay (fun b u _ q => q) (fun b q => ?_) fun b xs q => ?_
    · rw [del_out fun z => by
        obtain ⟨o1, u1, h1⟩ := hc b z
        rw [h1] at q
        cases q]
      exact q
    · rw [del_out fun z => by
        obtain ⟨o1, u1, h1⟩ := hc b z
        rw [h1] at q
        cases q]
      exact q
/-- a run with things lent is a run without -/
theorem un_lend {fs : List Addr} {H H' : Hp} {h h' : Heap} {cs : Addr → Prop} {ob : Addr → Obj} {P : Program} {w : World} (u : Un fs [] (lendH H cs ob) H' h h') (ok : HOk P w H' h') (hg : ∀ c, cs c → h.get? c = some (ob c)) (hn : ∀ c, cs c → H c = none) : Un fs [] H (delL H' cs) h h' where
  keep := fun b o q n hf hx => by
    by_cases hc : cs b
    · have := u.frzs b _ _ (lend_in hc)
      obtain ⟨e, _⟩ := (show ObjOk P w H' h' b (.frz (ob b) anyO) from ok b _ this)
      rw [hg b hc] at q
      cases q
      exact e
    · exact u.keep b o q (by rw [lend_out hc]; exact n) hf hx
  slot := fun b o q n hf hx => by
    by_cases hc : cs b
    · have := u.frzs b _ _ (lend_in hc)
      obtain ⟨e, _⟩ := (show ObjOk P w H' h' b (.frz (ob b) anyO) from ok b _ this)
      rw [hg b hc] at q
      cases q
      exact ⟨(ob b).slots, e⟩
    · exact u.slot b o q (by rw [lend_out hc]; exact n) hf hx
  free := fun b o q n hx => by
    by_cases hc : cs b
    · exact del_in hc
    · rw [del_out hc]
      exact u.free b o q (by rw [lend_out hc]; exact n) hx
  there := u.there
  tups := fun b xs q => by
    have hc : ¬ cs b := fun z => by rw [hn b z] at q; cases q
    rw [del_out hc]
    exact u.tups b xs (by rw [lend_out hc]; exact q)
  frzs := fun b o v q => by
    have hc : ¬ cs b := fun z => by rw [hn b z] at q; cases q
    rw [del_out hc]
    exact u.frzs b o v (by rw [lend_out hc]; exact q)
  tbls := fun b ps q => by
    have hc : ¬ cs b := fun z => by rw [hn b z] at q; cases q
    rw [del_out hc]
    exact u.tbls b ps (by rw [lend_out hc]; exact q)
/-- a run without the things is a run with them -/
theorem un_back {fs : List Addr} {H H2 : Hp} {h h' : Heap} {cs : Addr → Prop} {ob : Addr → Obj} (u : Un fs [] (delL H cs) H2 h h') (hl : ∀ c, cs c → H c = some (.frz (ob c) anyO)) (hh : ∀ c, cs c → h.get? c = some (ob c)) (hf : ∀ c, cs c → c ∉ fs) :
    Un fs [] H (lendH H2 cs ob) h h' ∧ (∀ c, cs c → h'.get? c = some (ob c) ∧ H2 c = none) := by
  have key : ∀ c, cs c → h'.get? c = some (ob c) ∧ H2 c = none := fun c hc => ⟨u.keep c _ (hh c hc) (del_in hc) (hf c hc) (fun z => by cases z), u.free c _ (hh c hc) (del_in hc) (fun z => by cases z)⟩
  refine ⟨⟨fun b o q n hf' hx => ?_, fun b o q n hf' hx => ?_, fun b o q n hx => ?_, u.there, fun b xs q => ?_, fun b o v q => ?_, fun b ps q => ?_⟩, key⟩
  · have hc : ¬ cs b := fun z => by rw [hl b z] at n; cases n
    exact u.keep b o q (by rw [del_out hc]; exact n) hf' hx
  · have hc : ¬ cs b := fun z => by rw [hl b z] at n; cases n
    exact u.slot b o q (by rw [del_out hc]; exact n) hf' hx
  · have hc : ¬ cs b := fun z => by rw [hl b z] at n; cases n
    rw [lend_out hc]
    exact u.free b o q (by rw [del_out hc]; exact n) hx
  · have hc : ¬ cs b := fun z => by rw [hl b z] at q; cases q
    rw [lend_out hc]
    exact u.tups b xs (by rw [del_out hc]; exact q)
  · by_cases hc : cs b
    · rw [hl b hc] at q
      cases q
      exact lend_in hc
    · rw [lend_out hc]
      exact u.frzs b o v (by rw [del_out hc]; exact q)
  · have hc : ¬ cs b := fun z => by rw [hl b z] at q; cases q
    rw [lend_out hc]
    exact u.tbls b ps (by rw [del_out hc]; exact q)
end Pv
set_option Elab.async false
set_option linter.all false
set_option maxRecDepth 100000
set_option maxHeartbeats 4000000
namespace Pv
open PySem PySem.Spec PyProof.Rows L2
/-- the cells of a context's frame -/
def isC (X : Cx) (c : Addr) : Prop := ∃ y, X.env.cells.lookup y = some c
section
variable {X : Cx} {pins : List (Addr × Obj)} {σ : L2.St} {H : Hp} {s : Shared}
theorem c_old (I : Inv X pins σ H s) (hfn : ∀ y, X.fn y = true) {c : Addr} (h : isC X c) : X.s_0.heap.objs.size ≤ c := by
  obtain ⟨y, hy⟩ := h
  exact I.ok.cab y c (hfn y) hy
theorem c_stk (I : Inv X pins σ H s) (hfn : ∀ y, X.fn y = true) {c : Addr} (h : isC X c) : c ∉ frs X.stack := fun z => by
  have h1 := c_old I hfn h
  have hout : c ∉ X.fs := fun hb => by
    obtain ⟨_, o, ho, _⟩ := I.ok.funs.mem hb
    exact absurd (Nat.lt_of_lt_of_le (Heap.lt_size ho) h1) (Nat.lt_irrefl _)
  rcases I.ok.stk with e | ⟨e, e2⟩
  · rw [e] at z
    exact hout z
  · rw [e] at z
    have z' : c ∈ frs (X.env :: X.outer) := z
    unfold frs at z'
    rw [List.filterMap_cons, e2] at z'
    rcases List.mem_cons.mp z' with q | q
    · obtain ⟨y, hy⟩ := h
      exact I.cne y c hy q
    · exact hout q
noncomputable def cellOb (h : Heap) (c : Addr) : Obj := (h.get? c).getD { cls := .none, data := .fields #[] }
/-- the state of a call with the frame's cells lent -/
theorem env0_lend (I : Inv X pins σ H s) (hfn : ∀ y, X.fn y = true) : Env0 X.prog X.w X.K X.mg X.base X.A X.stack s (lendH H (isC X) (cellOb s.heap)) ∧ (∀ c, isC X c → s.heap.get? c = some (cellOb s.heap c) ∧ H c = none ∧ ∃ v, (cellOb s.heap c).data = .cell v) := by
  have hc : ∀ c, isC X c → s.heap.get? c = some (cellOb s.heap c) ∧ H c = none ∧ ∃ v, (cellOb s.heap c).data = .cell v := fun c ⟨y, hy⟩ => by
    obtain ⟨v, o, ho, hd⟩ := I.cell y c hy
    have e : cellOb s.heap c = o := by
      unfold cellOb
      rw [ho] <;> rfl
    exact ⟨by rw [e]; exact ho, I.freeC y c hy, v, by rw [e]; exact hd⟩
  have e0 := I.env0
  refine ⟨⟨e0.frames, e0.mod, fun b o e => ⟨(e0.bs b o e).1, ?_⟩, e0.bsz, e0.funs, fun b hb => ?_, hok_lend e0.hok (fun c h => (hc c h).1) (fun c h => (hc c h).2.1), e0.bare⟩, hc⟩
  · rw [lend_out fun h => ?_]
    · exact (e0.bs b o e).2
    · exact absurd (Nat.lt_of_lt_of_le (Nat.lt_of_lt_of_le (Heap.lt_size e) I.ok.bsz) (c_old I hfn h)) (Nat.lt_irrefl _)
  · rw [lend_out fun h => c_stk I hfn h hb]
    exact e0.frf b hb
/-- what the cells hold -/
def CellsAt (X : Cx) (σ : L2.St) (ob : Addr → Obj) : Prop := ∀ (i : Nat) (y : Str) (v : V) (c : Addr), X.N[i]? = some y → σ[i]? = some (some v) → X.env.cells.lookup y = some c → (X.env.kindOf y = some .cell ∨ X.env.kindOf y = some .free) → ∃ u, (ob c).data = .cell (some u) ∧ RelV v u
theorem cellsAt (I : Inv X pins σ H s) : CellsAt X σ (cellOb s.heap) := fun i y v c h1 h2 h3 h4 => by
  obtain ⟨m, _, hl⟩ := I.loc
  obtain ⟨u, r, q⟩ := hl i y v h1 h2 (h4.elim (fun k => .inr (.inl k)) fun k => .inr (.inr k))
  rcases q with ⟨k, _⟩ | ⟨_, c2, e, o, ho, hd⟩
  · rcases h4 with z | z <;> rw [z] at k <;> cases k
  · rw [h3] at e
    cases e
    refine ⟨u, ?_, r⟩
    have e2 : cellOb s.heap c = o := by
      unfold cellOb
      rw [ho] <;> rfl
    rw [e2]
    exact hd
/-- what is known when the cells are lent -/
structure LendOk (X : Cx) (σ : L2.St) (H : Hp) (ob : Addr → Obj) : Prop where
  c : ∀ c, isC X c → H c = none ∧ ∃ v, (ob c).data = .cell v
  at_ : CellsAt X σ ob
  inj : ∀ x y c, X.env.cells.lookup x = some c → X.env.cells.lookup y = some c → x = y
  has : ∀ x, (X.env.kindOf x = some .cell ∨ X.env.kindOf x = some .free) → ∃ c, X.env.cells.lookup x = some c
  len : σ.length = X.N.length
/-- a call of a def of the module, the cells of the frame lent -/
theorem run_lend {k : Nat} {f : Addr} {fd : FuncData} {ps : List Str} {sp : Spg} {us us' : List Value} {kw : List (Str × Value)} {vs : List V} {Q : VK} (F : FnG X.prog X.w X.K X.mg X.base k f fd ps sp) (hr : RoomG k X.A) (hfn : ∀ y, X.fn y = true) (hb : BindsTo s fd ⟨us', kw⟩ (ps.zip us)) (I : Inv X pins σ H s) (r : Vals vs us)
    (h : ∀ ob : Addr → Obj, LendOk X σ H ob → sp vs (lendH H (isC X) ob) (fun v H2 => Q v (delL H2 (isC X)))) :
    wpAny (model X.prog X.w) X.A (call (.ref f) us' kw) (EP X pins σ Q) X.xe s := by
  obtain ⟨e0, hc⟩ := env0_lend I hfn
  refine wpAny_call (codeAny_mono (F.run X.A X.stack s _ ⟨us', kw⟩ us vs _ hr e0 hb r (h _ ⟨fun c q => ⟨(hc c q).2.1, (hc c q).2.2⟩, cellsAt I, I.ok.inj, I.ok.has, I.len⟩)) fun r s' hq => ?_)
  cases r with
  | error e => exact (show False from hq).elim
  | ok fl =>
    cases fl with
    | ret u =>
      obtain ⟨v, H', os, bare, un, hok, rv, q⟩ := (show CE X.stack X.prog X.w _ s _ u s' from hq)
      refine I.after ⟨v, delL H' (isC X), os, bare, un_lend un hok (fun c q => (hc c q).1) (fun c q => (hc c q).2.1), hok_del hok (fun c q => ⟨_, _, un.frzs c _ _ (lend_in q)⟩), rv, q⟩
    | next => exact False.elim hq
    | brk => exact False.elim hq
    | cont => exact False.elim hq
theorem pe_callLend {k : Nat} {f : Addr} {fd : FuncData} {ps : List Str} {sp : Spg} {x : Str} {p pos : Pos} {e : Expr} {es : List Expr} {t : TA} (F : FnG X.prog X.w X.K X.mg X.base k f fd ps sp) (hr : RoomG k X.A) (hfn : ∀ y, X.fn y = true) (hg : Gl X x) (hm : X.mg x = some (.ref f)) (hk : PySem.W.keepIn X.K (.ref f) = true) (hb : Binds X.K fd ps [])
    (ha : PA X (e :: es) t) (hdb : (x == ("__debug__" : Str)) = false) (he : starEach (e :: es) X.env = (false, eval e X.env) :: starEach es X.env) (hpl : (backTo pos (starEach es X.env)).any (·.1) = false) :
    PE X (.Call (.Name x p) (e :: es) [] pos) (fun σ H Q => t σ H fun vs H1 => vs.length = ps.length ∧ ∀ ob : Addr → Obj, LendOk X σ H1 ob → sp vs (lendH H1 (isC X) ob) (fun v H2 => Q v (delL H2 (isC X)))) := by
  refine ⟨fun pins s σ H Q I h => ?_⟩
  refine wpAny_Call_Name_kw (ld_glob I hg hm ?_ hdb)
  refine PySem.W.callWith_K (h₀ := X.base) I.ok.mod.kin hk ?_ he hpl
  refine thn (ha.run pos pins s σ H _ I h) fun us s1 ⟨vs, H1, I1, r, hlen, q⟩ => ⟨I1.kIn, ?_⟩
  have hb1 := hb s1 us I1.kIn (by rw [List.append_nil, ← r.length]; exact hlen)
  rw [List.append_nil] at hb1
  exact run_lend F hr hfn hb1 I1 r q
end
/-! ### the lambda's body, run -/
abbrev loEnv (q : Str) (scope : Scope) (L f c' : Addr) (cl : List (Str × Addr)) : Env := PySem.W.envX q scope L f (.ref c') cl
def loCx (P : Program) (w : World) (K : PySem.W.Frag) (mg : Str → Option Value) (base : Heap) (N : List Str) (q : Str) (scope : Scope) (f c' : Addr) (cl : List (Str × Addr)) (A : Around) (outer : List Env) (s : Shared) (H : Hp) : Cx where
  prog := P
  w := w
  K := K
  mg := mg
  base := base
  A := A.deeper (loEnv q scope s.heap.objs.size f c' cl)
  N := N
  s_0 := s
  H_0 := H
  env := loEnv q scope s.heap.objs.size f c' cl
  outer := outer
  stack := loEnv q scope s.heap.objs.size f c' cl :: outer
  ex := []
  fn := fun _ => false
  calm := true
  pn := []
  xe := fun _ _ => False
/-- what a lambda asks of its names -/
def loB (scope : Scope) (cl : List (Str × Addr)) : Prop :=
  scope.kind = .function ∧ scope.isCoroutine = false ∧ scope.isGenerator = false ∧ (∀ y ∈ scope.names, y.2 ≠ .local ∧ y.2 ≠ .cell) ∧ (∀ y ∈ scope.names, y.2 = .free → ∃ c, cl.lookup y.1 = some c) ∧ (∀ x y c, cl.lookup x = some c → cl.lookup y = some c → x = y)
theorem lo_start {P : Program} {w : World} {K : PySem.W.Frag} {mg : Str → Option Value} {base : Heap} {N : List Str} {q : Str} {scope : Scope} {f c' : Addr} {cl : List (Str × Addr)} {A : Around} {outer : List Env} {s1 : Shared} {HZ : Hp} {h₁ : Heap} {tk : Nat} {σ : L2.St} {ob : Addr → Obj}
    (L : loB scope cl) (e0 : Env0 P w K mg base A outer s1 HZ) (hd : A.handled = none) (hns : h₁.Ns s1.heap.objs.size fun y => ([] : List (Str × Value)).reverse.lookup y) (kp : ∀ b o, s1.heap.get? b = some o → h₁.get? b = some o)
    (hcell : ∀ y c, cl.lookup y = some c → s1.heap.get? c = some (ob c) ∧ HZ c = none ∧ ∃ v, (ob c).data = .cell v) (hval : ∀ (i : Nat) (y : Str) (v : V) (c : Addr), N[i]? = some y → σ[i]? = some (some v) → cl.lookup y = some c → scope.names.lookup y = some .free → ∃ u, (ob c).data = .cell (some u) ∧ RelV v u) (hlen : σ.length = N.length) :
    Inv (loCx P w K mg base N q scope f c' cl A outer s1 HZ) [] σ HZ { s1 with heap := h₁, toks := tk } := by
  obtain ⟨L1, L2', L3, L4, L5, L6⟩ := L
  have noA : ∀ b : Addr, b ∉ (loCx P w K mg base N q scope f c' cl A outer s1 HZ).ex := fun b z => absurd (show b ∈ ([] : List Addr) from z) (by simp)
  refine ⟨⟨e0.mod, L1, rfl, rfl, Nat.le_refl _, fun y z c e1 e2 => L6 y z c e1 e2, fun y hy => ?_, fun y c z _ => ?_, fun _ => hd, Around.frames_deeper e0.frames, .inr ⟨rfl, rfl⟩, fun b z => absurd z (noA b), e0.bs, e0.bsz, fun b _ _ => noA b,
      fun b z => absurd z (noA b), e0.funs, e0.frf⟩,
    rfl, e0.bare, Un.kept kp, ⟨_, hns, fun i y v e1 e2 e3 => ?_⟩, fun y c e => ?_, e0.hok.fresh (Nat.le_refl _), fun y c e => (hcell y c e).2.1, fun q hq => absurd (show q ∈ ([] : List (Addr × Obj)) ++ [] from hq) (by simp), e0.hok.kept kp, hlen⟩
  · have hy : scope.names.lookup y = some .cell ∨ scope.names.lookup y = some .free := hy
    rcases hy with hy | hy
    · exact absurd rfl (L4 _ (PySem.mem_of_lookup hy)).2
    · exact L5 _ (PySem.mem_of_lookup hy) rfl
  · have z : false = true := z
    cases z
  · have e3 : Vis scope y := e3
    rcases e3 with k | k | k
    · exact absurd rfl (L4 _ (PySem.mem_of_lookup k)).1
    · exact absurd rfl (L4 _ (PySem.mem_of_lookup k)).2
    · obtain ⟨c, hc⟩ := L5 _ (PySem.mem_of_lookup k) rfl
      obtain ⟨u, h1, h2⟩ := hval i y v c e1 e2 hc k
      exact ⟨u, h2, .inr ⟨.inr k, c, hc, _, kp _ _ (hcell y c hc).1, h1⟩⟩
  · obtain ⟨h1, _, v, h2⟩ := hcell y c e
    exact ⟨v, _, kp _ _ h1, h2⟩
abbrev loFn (q : Str) (params : Arguments) (body : Expr) (scope : Scope) (cl : List (Str × Addr)) (pm : Value) (c' : Addr) (ctv : Value) : Obj := PySem.W.kla_obj "<lambda>" q params body scope cl pm c' ctv
/-- a(), a: a lambda whose cells are lent -/
theorem pe_clo {X : Cx} {k i : Nat} {a : Str} {N : List Str} {σ0 : L2.St} {cl : List (Str × Addr)} {f c' : Addr} {q : Str} {params : Arguments} {body : Expr} {scope : Scope} {pm ctv : Value} {ob : Addr → Obj} {p1 p2 : Pos} {tb : TE} (cs : Addr → Prop) (hr : RoomG (k + 1) X.A) (hc : X.calm = true) (L : loB scope cl) (hcl : ∀ y c, cl.lookup y = some c → cs c)
    (hbind : bindArgs (PySem.W.kla_fn "<lambda>" q params body scope cl pm (.ref c') ctv) ⟨[], []⟩ = pure []) (hlen : σ0.length = N.length)
    (hbody : ∀ (A : Around) (outer : List Env) (s : Shared) (H : Hp), RoomG k (A.deeper (loEnv q scope s.heap.objs.size f c' cl)) → PE (loCx X.prog X.w X.K X.mg X.base N q scope f c' cl A outer s H) body tb)
    (hN : X.N[i]? = some a) (hv : Vis X.env.scope a) (hd : (a == ("__debug__" : Str)) = false := by decide) (hcd : (a == ("__classdict__" : Str)) = false := by decide) :
    PE X (.Call (.Name a p1) [] [] p2) (fun σ H Q => σ[i]? = some (some (.ref f)) ∧ H f = some (.frz (loFn q params body scope cl pm c' ctv) anyO) ∧ H c' = some (LamX.CodeO c' q) ∧ (∀ c, cs c → H c = some (.frz (ob c) anyO) ∧ ∃ v, (ob c).data = .cell v) ∧
      (∀ (i : Nat) (y : Str) (v : V) (c : Addr), N[i]? = some y → σ0[i]? = some (some v) → cl.lookup y = some c → scope.names.lookup y = some .free → ∃ u, (ob c).data = .cell (some u) ∧ RelV v u) ∧ tb σ0 (delL H cs) (fun v H2 => (∀ c, cs c → H2 c = none) → Q v (lendH H2 cs ob))) := by
  refine ⟨fun pins sZ σZ HZ Q IZ h => ?_⟩
  obtain ⟨hs, hf, hco, hcs, hval, ht⟩ := h
  refine wpAny_Call_Name_kw (thn ((pe_var (pos := p1) (i := i) hN hv hd hcd).run pins sZ σZ HZ (fun v H1 => v = .ref f ∧ H1 = HZ) IZ ⟨.ref f, hs, rfl, rfl⟩) fun u s1 ⟨v, H1, I1, r1, q1⟩ => ?_)
  obtain ⟨ev, eH⟩ := q1
  subst ev
  rw [eH] at I1
  obtain rfl : u = Value.ref f := r1
  obtain ⟨of1, _⟩ := (show ObjOk X.prog X.w HZ s1.heap f (.frz (loFn q params body scope cl pm c' ctv) anyO) from I1.hok f _ hf)
  refine PySem.W.callWith_F0 ⟨_, _, _, _, of1⟩ ?_
  obtain ⟨⟨oc, vs, t, hoc, hdc, hvc⟩, _, _⟩ := I1.hok c' _ hco
  have cg : ∀ c, cs c → s1.heap.get? c = some (ob c) := fun c z => (show ObjOk X.prog X.w HZ s1.heap c (.frz (ob c) anyO) from I1.hok c _ (hcs c z).1).1
  have e0 := I1.env0
  have e1 : Env0 X.prog X.w X.K X.mg X.base X.A X.stack s1 (delL HZ cs) := by
    refine ⟨e0.frames, e0.mod, fun b o e => ⟨(e0.bs b o e).1, ?_⟩, e0.bsz, e0.funs, fun b hb => ?_, hok_del e0.hok (fun c z => ⟨_, _, (hcs c z).1⟩), e0.bare⟩
    · by_cases z : cs b
      · exact del_in z
      · rw [del_out z]
        exact (e0.bs b o e).2
    · by_cases z : cs b
      · exact del_in z
      · rw [del_out z]
        exact e0.frf b hb
  have cf : ∀ c, cs c → c ∉ frs X.stack := fun c z hm => by
    have := e0.frf c hm
    rw [(hcs c z).1] at this
    cases this
  have rc : codeAny (model X.prog X.w) X.A (.call (.ref f) ⟨[], []⟩) (CR (fun _ _ _ _ _ _ => False) X.stack X.prog X.w HZ s1 Q (fun _ _ _ => False)) s1 := by
    refine PySem.W.kla_callFunE hr.r.depth of1 rfl L.2.1 L.2.2.1 rfl ⟨c', oc, vs, t, rfl, hoc, hdc, hvc⟩ ?_
    rw [hbind]
    refine wpAny_pure (wpAny_newFunctionEnv (fun y hy => (L.2.2.2.1 y hy).2) (fun y hy => absurd hy (by simp)) (fun h₁ hns hsb => ⟨I1.nolimit.fresh _ hsb, ?_⟩) L.1)
    show codeAny _ _ (.expr body (loEnv q scope s1.heap.objs.size f c' cl)) _ _
    have kp : ∀ b o, s1.heap.get? b = some o → h₁.get? b = some o := fun b o e => hsb.extBut b o (Nat.ne_of_lt (Heap.lt_size e)) (Heap.get?_push_of_some _ e)
    have J : Inv (loCx X.prog X.w X.K X.mg X.base N q scope f c' cl X.A X.stack s1 (delL HZ cs)) [] σ0 (delL HZ cs) { s1 with heap := h₁, toks := s1.toks + ([] : List (Str × Value)).length } :=
      lo_start (ob := ob) L e1 (I1.ok.hd hc) hns kp (fun y c e => ⟨cg c (hcl y c e), del_in (hcl y c e), (hcs c (hcl y c e)).2⟩) hval hlen
    refine PySem.W.kla_codeExpr (wpAny_mono ((hbody _ _ s1 _ (hr.deeper _)).run [] _ _ _ _ J ht) (fun v s' hq => ?_) fun e s' hq => False.elim hq)
    obtain ⟨w', H', J', rv, q⟩ := hq
    obtain ⟨ub, key⟩ := un_back (cs := cs) (ob := ob) J'.base (fun c z => (hcs c z).1) cg cf
    exact ⟨w', lendH H' cs ob, J'.os, J'.bare, ub, hok_lend J'.hok (fun c z => (key c z).1) (fun c z => (key c z).2), rv, q fun c z => (key c z).2⟩
  refine wpAny_call (codeAny_mono rc fun r s' hq => ?_)
  cases r with
  | error e => exact (show False from hq).elim
  | ok fl =>
    cases fl with
    | ret u => exact I1.after hq
    | next => exact False.elim hq
    | brk => exact False.elim hq
    | cont => exact False.elim hq
end Pv
set_option Elab.async false
set_option linter.all false
set_option maxRecDepth 100000
set_option maxHeartbeats 4000000
namespace Pv
open PySem PySem.Spec PyProof.Rows L2
/-! ### a lambda made: the function object is known from then on -/
theorem pe_lam {X : Cx} {T : List (Addr × Str)} {c P : Addr} {params : Arguments} {body : Expr} {scope : Scope} {pos : Pos} (TB : LamX.TabB X.base X.mg c P) (hcode : X.env.code = .ref c) (hm : (P, X.env.qual ++ "<lambda>") ∈ T) (hu : ∀ p ∈ T, p.1 = P → p.2 = X.env.qual ++ "<lambda>")
    (hdef : defaultsOf params X.env = ([], [])) (hk : ∀ y ∈ scope.names, y.2 = .free → X.env.kindOf y.1 = some .cell ∨ X.env.kindOf y.1 = some .free) :
    PE X (.Lambda params body scope pos) (fun σ H Q => LamX.Tabs T H ∧ ∀ (f c' : Addr) (pm ctv : Value) (H1 : Hp), (∀ b o, b ≠ P → H b = some o → H1 b = some o) → H1 P ≠ none → LamX.Tabs T H1 → H1 f = none → H1 c' = some (LamX.CodeO c' (X.env.qual ++ "<lambda>")) →
      Q (.ref f) (upd H1 f (.frz (loFn (X.env.qual ++ "<lambda>") params body scope (cloFrom X.env.cells scope.names []) pm c' ctv) anyO))) := by
  refine ⟨fun pins s σ H Q I ⟨hT, h⟩ => ?_⟩
  have hfree : ∀ y ∈ scope.names, y.2 = .free → ∃ c, X.env.cells.lookup y.1 = some c := fun y hy e => I.ok.has _ (hk y hy e)
  obtain ⟨ps, tP, tr, am⟩ := hT _ hm
  have bP : s.heap.BuiltinsAt X.mg P := TB.bm.keeps I.bk
  have tab : s.heap.get? P = some { cls := .none, data := .fields ps } := I.hok P _ tP
  -- the function object behind a heap that bears all else
  have fin : ∀ {H1 : Hp} {h' : Heap} {tk : Nat} {c' : Addr} {pm ctv : Value}, Inv X pins σ H1 { s with heap := h', toks := tk } → (∀ b o, b ≠ P → H b = some o → H1 b = some o) → H1 P ≠ none → LamX.Tabs T H1 → H1 c' = some (LamX.CodeO c' (X.env.qual ++ "<lambda>")) →
      EP X pins σ Q (.ref h'.objs.size) { s with heap := h'.push (loFn (X.env.qual ++ "<lambda>") params body scope (cloFrom X.env.cells scope.names []) pm c' ctv), toks := tk } := fun {H1 h' tk c' pm ctv} I1 q1 q2 q3 q4 => by
    have fresh : H1 h'.objs.size = none := I1.hok.fresh (Nat.le_refl _)
    have at_ : (h'.push (loFn (X.env.qual ++ "<lambda>") params body scope (cloFrom X.env.cells scope.names []) pm c' ctv)).get? h'.objs.size = some (loFn (X.env.qual ++ "<lambda>") params body scope (cloFrom X.env.cells scope.names []) pm c' ctv) := Heap.get?_push_size _ rfl
    exact ⟨.ref h'.objs.size, _, I1.laid (t' := tk) (o := .frz (loFn (X.env.qual ++ "<lambda>") params body scope (cloFrom X.env.cells scope.names []) pm c' ctv) anyO) (fun b u e => Heap.get?_push_of_some _ e) (Nat.le_refl _) ⟨at_, True.intro, ⟨_, at_⟩, fun _ _ _ _ => True.intro⟩, rfl, h _ _ _ _ _ q1 q2 q3 fresh q4⟩
  refine PySem.W.kla_eval hdef ?_
  cases hc : codeAmong pos ps.toList with
  | some cv =>
    obtain ⟨c', rfl, hco⟩ := am pos cv hc
    refine PySem.W.kla_makeFunctionHit (mg := X.mg) (c := c) (P := P) (ps := ps) (closure_ok hfree) I.ok.glob (I.mod.glob.keeps I.bk) hcode (TB.code.keeps I.bk) tab tr hc bP fun ctv h' tk hx hsz => ?_
    exact fin (I.kept hx) (fun _ _ _ e => e) (by rw [tP]; exact fun z => nomatch z) hT hco
  | none =>
    refine PySem.W.kla_makeFunction (mg := X.mg) (c := c) (P := P) (ps := ps) (closure_ok hfree) I.ok.glob (I.mod.glob.keeps I.bk) hcode (TB.code.keeps I.bk) tab tr hc TB.gP bP fun c' ctv h' tk hx hge hlt hrec htb => ?_
    obtain ⟨c2, oc, vs, t, e2, hoc, hd, hv⟩ := hrec
    cases e2
    have nC : H c' = none := I.hok.fresh hge
    have nPc : P ≠ c' := ne_of_none tP nC
    refine fin (LamX.inv_table (t' := tk) (more := #[rawInt pos.line, rawInt pos.col, .ref c']) I tP hx htb hge ⟨oc, vs, t, hoc, hd, hv⟩) (fun b o hb e => ?_) ?_ (fun p hp => ?_) upd_same
    · rw [upd_ne (ne_of_none e nC), upd_ne hb]
      exact e
    · rw [upd_ne nPc, upd_same]
      exact fun z => nomatch z
    · have keepC : ∀ d, H d = some (LamX.CodeO d p.2) → upd (upd H P (.tbl (ps ++ #[rawInt pos.line, rawInt pos.col, .ref c']))) c' (LamX.CodeO c' (X.env.qual ++ "<lambda>")) d = some (LamX.CodeO d p.2) := fun d e => by
        rw [upd_ne (ne_of_none e nC), upd_ne fun z => LamX.codeO_ne ps (Option.some.inj (e.symm.trans (by rw [z]; exact tP)))]
        exact e
      by_cases hb : p.1 = P
      · have eq2 := hu p hp hb
        have el : (ps ++ #[rawInt pos.line, rawInt pos.col, .ref c']).toList = ps.toList ++ [rawInt pos.line, rawInt pos.col, .ref c'] := by simp
        refine ⟨ps ++ #[rawInt pos.line, rawInt pos.col, .ref c'], ?_, by rw [el]; exact PySem.TriplesOk_snoc _ _ _ _ tr, fun p' cv hcv => ?_⟩
        · rw [hb, upd_ne nPc, upd_same]
        · rw [el] at hcv
          rcases LamX.among_app _ tr hcv with z | z
          · obtain ⟨d, e1, e3⟩ := am p' cv z
            rw [eq2] at keepC ⊢
            exact ⟨d, e1, keepC d e3⟩
          · rw [eq2]
            exact ⟨c', z, upd_same⟩
      · obtain ⟨ps', a1, a2, a3⟩ := hT p hp
        refine ⟨ps', by rw [upd_ne (ne_of_none a1 nC), upd_ne hb]; exact a1, a2, fun p' cv hcv => ?_⟩
        obtain ⟨d, e1, e3⟩ := a3 p' cv hcv
        exact ⟨d, e1, keepC d e3⟩
end Pv
set_option Elab.async false
set_option linter.all false
set_option maxRecDepth 100000
set_option maxHeartbeats 4000000
namespace Pv
open PySem PySem.Spec PyProof.Rows L2
/-! ### the law's mode: the bag, the tables -/
structure Bag where
  cells : List Int
  hi : Int
  mix : Int
structure BagOk (b : Bag) : Prop where
  len : b.cells.length ≤ 63
  cells : ∀ c ∈ b.cells, 0 ≤ c ∧ c < 10 ^ 64
  hi : 0 ≤ b.hi ∧ b.hi < 10 ^ 64
  mix : 0 ≤ b.mix ∧ b.mix < 2147483647
structure BagR (B C : Addr) (T : List (Addr × Str)) (b : Bag) (W : Wd) : Prop where
  fB : W.F B = none
  fC : W.F C = none
  hB : W.H B = some (.lst [.ref C, .int b.hi, .int b.mix])
  hC : W.H C = some (.lst (b.cells.map .int))
  ne : B ≠ C
  ok : BagOk b
  tab : LamX.Tabs T W.H
  ft : ∀ p ∈ T, W.F p.1 = none
theorem tabs_put {T : List (Addr × Str)} {H : Hp} {l : Addr} {o u : HO} (t : LamX.Tabs T H) (h : H l = some o) (ho : isOwn o = true) : LamX.Tabs T (upd H l u) := fun p hp => by
  obtain ⟨ps, a1, a2, a3⟩ := t p hp
  have n1 : p.1 ≠ l := ne_of a1 h (fun z => by rw [← z] at ho; cases ho)
  refine ⟨ps, by rw [upd_ne n1]; exact a1, a2, fun pos cv hc => ?_⟩
  obtain ⟨d, e1, e2⟩ := a3 pos cv hc
  have n2 : d ≠ l := ne_of e2 h (fun z => by rw [← z] at ho; cases ho)
  exact ⟨d, e1, by rw [upd_ne n2]; exact e2⟩
def lawM (B C : Addr) (T : List (Addr × Str)) : Mode where
  ι := Bag
  M := fun a => a = B ∨ a = C ∨ ∃ p ∈ T, p.1 = a
  R := BagR B C T
  st := fun i W V r h hf => ⟨hf B (.inl rfl), hf C (.inr (.inl rfl)), h _ _ r.hB, h _ _ r.hC, r.ne, r.ok, r.tab.ext h, fun p hp => hf p.1 (.inr (.inr ⟨p, hp, rfl⟩))⟩
  al := fun i W r a ha => by
    rcases ha with rfl | rfl | ⟨p, hp, rfl⟩
    · exact ⟨(by rw [r.hB]; exact fun z => nomatch z), r.fB⟩
    · exact ⟨(by rw [r.hC]; exact fun z => nomatch z), r.fC⟩
    · obtain ⟨ps, h, _⟩ := r.tab p hp
      exact ⟨(by rw [h]; exact fun z => nomatch z), r.ft p hp⟩
  pt := fun i W l o u h r hm hl ho => by
    have n1 : B ≠ l := fun z => hm (.inl z.symm)
    have n2 : C ≠ l := fun z => hm (.inr (.inl z.symm))
    exact ⟨r.fB, r.fC, by show upd W.H l u B = _; rw [upd_ne n1]; exact r.hB, by show upd W.H l u C = _; rw [upd_ne n2]; exact r.hC, r.ne, r.ok, tabs_put r.tab hl ho, r.ft⟩
/-! ### lambdas as expressions -/
/-- how a family's def stands to its table -/
structure LamY (Y : Fam) (T : List (Addr × Str)) (q : Str) (P : Addr) : Prop where
  tb : ∃ c, LamX.TabB Y.base Y.mg c P ∧ ∀ a, (Y.X a).env.code = .ref c
  qn : ∀ a, (Y.X a).env.qual ++ "<lambda>" = q
  m : (P, q) ∈ T
  u : ∀ p ∈ T, p.1 = P → p.2 = q
  one : ∀ a b : Y.α, a = b
  fn : ∀ a y, (Y.X a).fn y = true
def lamB (sc scope : Scope) : Bool := decide (scope.kind = .function) && !scope.isCoroutine && !scope.isGenerator && scope.names.all fun y => decide (y.2 ≠ .local) && decide (y.2 ≠ .cell) && (decide (y.2 ≠ .free) || decide (sc.names.lookup y.1 = some .cell) || decide (sc.names.lookup y.1 = some .free))
structure LamOk (sc scope : Scope) : Prop where
  kind : scope.kind = .function
  co : scope.isCoroutine = false
  gen : scope.isGenerator = false
  own : ∀ y ∈ scope.names, y.2 ≠ .local ∧ y.2 ≠ .cell
  free : ∀ y ∈ scope.names, y.2 = .free → sc.names.lookup y.1 = some .cell ∨ sc.names.lookup y.1 = some .free
theorem lamOk_of {sc scope : Scope} (h : lamB sc scope = true) : LamOk sc scope := by
  unfold lamB at h
  simp only [Bool.and_eq_true, Bool.or_eq_true, Bool.not_eq_true', decide_eq_true_eq, List.all_eq_true] at h
  obtain ⟨⟨⟨h1, h2⟩, h3⟩, h4⟩ := h
  refine ⟨h1, h2, h3, fun y hy => (h4 y hy).1, fun y hy e => ?_⟩
  rcases (h4 y hy).2 with (z | z) | z
  · exact absurd e z
  · exact .inl z
  · exact .inr z
section
variable {B C : Addr} {T : List (Addr × Str)} {Y : Fam} {σ : L2.St} {W : Wd} {i j k : Bag} {q : Str} {P : Addr} {params : Arguments} {body : Expr} {scope : Scope} {pos : Pos}
def madeAt (cl : List (Str × Addr)) (q : Str) (params : Arguments) (body : Expr) (scope : Scope) (f c' : Addr) (pm ctv : Value) (W : Wd) : Prop := W.F f = some (.frz (loFn q params body scope cl pm c' ctv) anyO) ∧ W.H c' = some (LamX.CodeO c' q)
theorem madeAt.le {cl : List (Str × Addr)} {f c' : Addr} {pm ctv : Value} {W V : Wd} {M : Addr → Prop} (h : madeAt cl q params body scope f c' pm ctv W) (l : Le M W V) (hm : ¬ M c') : madeAt cl q params body scope f c' pm ctv V := ⟨l.f _ _ h.1, l.h _ _ hm h.2⟩
theorem code_notM {b : Bag} {W : Wd} {c' : Addr} (r : BagR B C T b W) (h : W.H c' = some (LamX.CodeO c' q)) : ¬ (lawM B C T).M c' := fun z => by
  rcases z with rfl | rfl | ⟨p, hp, rfl⟩
  · rw [r.hB] at h
    cases h
  · rw [r.hC] at h
    cases h
  · obtain ⟨ps, e, _⟩ := r.tab p hp
    rw [e] at h
    cases h
theorem eg_lam (a0 : Y.α) (L : LamY Y T q P) (hk : lamB Y.sc scope = true := by rfl) (hdef : ∀ a, defaultsOf params (Y.X a).env = ([], []) := by intro _; rfl) :
    EG (lawM B C T) Y σ W i (.Lambda params body scope pos) (fun _ v V => ∃ f c' pm ctv, v = .ref f ∧ madeAt (cloFrom (Y.X a0).env.cells scope.names []) q params body scope f c' pm ctv V ∧ ¬ (lawM B C T).M c') i := fun U h1 r Q z => by
  obtain ⟨c, TB, hcode⟩ := L.tb
  have ok := lamOk_of hk
  refine ⟨fun σ H Q => LamX.Tabs T H ∧ ∀ (f c' : Addr) (pm ctv : Value) (H1 : Hp), (∀ b o, b ≠ P → H b = some o → H1 b = some o) → H1 P ≠ none → LamX.Tabs T H1 → H1 f = none → H1 c' = some (LamX.CodeO c' q) →
      Q (.ref f) (upd H1 f (.frz (loFn q params body scope (cloFrom (Y.X a0).env.cells scope.names []) pm c' ctv) anyO)), fun a => ?_, r.tab, fun f c' pm ctv H1 q1 q2 q3 q4 q5 => ?_⟩
  · have e := L.one a a0
    subst e
    have h := pe_lam (X := Y.X a) (T := T) (params := params) (body := body) (scope := scope) (pos := pos) (by rw [Y.hbase, Y.hmg]; exact TB) (hcode a) (by rw [L.qn]; exact L.m) (by rw [L.qn]; exact L.u) (hdef a) (fun y hy hf => by
      show (Y.X a).env.scope.names.lookup y.1 = _ ∨ (Y.X a).env.scope.names.lookup y.1 = _
      rw [Y.hsc]
      exact ok.free y hy hf)
    rw [L.qn] at h
    exact h
  · have fP : U.F P = none := r.ft _ L.m
    have nP : ∀ b o, U.F b = some o → b ≠ P := fun b o e => ne_of_none e fP
    have h1none : ∀ b, U.H b ≠ none → H1 b ≠ none := fun b hb => by
      by_cases hp : b = P
      · rw [hp]
        exact q2
      · cases e : U.H b with
        | none => exact absurd e hb
        | some o =>
          rw [q1 b o hp e]
          exact fun z => nomatch z
    have nf : ∀ b, U.H b ≠ none → b ≠ f := fun b hb e => h1none b hb (e ▸ q4)
    have kB : H1 B = some (.lst [.ref C, .int i.hi, .int i.mix]) := q1 B _ (fun z => by
      obtain ⟨ps, e, _⟩ := r.tab _ L.m
      have e2 := r.hB
      rw [z, e] at e2
      cases e2) r.hB
    have kC : H1 C = some (.lst (i.cells.map .int)) := q1 C _ (fun z => by
      obtain ⟨ps, e, _⟩ := r.tab _ L.m
      have e2 := r.hC
      rw [z, e] at e2
      cases e2) r.hC
    have fB : B ≠ f := ne_of_none kB q4
    have fC : C ≠ f := ne_of_none kC q4
    have hFf : U.F f = none := by
      cases e : U.F f with
      | none => rfl
      | some o => exact absurd rfl (nf f (by rw [U.sub f o e]; exact fun z => nomatch z))
    let V : Wd := ⟨upd U.F f (.frz (loFn q params body scope (cloFrom (Y.X a0).env.cells scope.names []) pm c' ctv) anyO), upd H1 f (.frz (loFn q params body scope (cloFrom (Y.X a0).env.cells scope.names []) pm c' ctv) anyO), fun a o e => by
      by_cases z : a = f
      · subst z
        rw [upd_same] at e ⊢
        exact e
      · rw [upd_ne z] at e ⊢
        exact q1 a o (nP a o e) (U.sub a o e)⟩
    have hR : BagR B C T i V := by
      refine ⟨?_, ?_, ?_, ?_, r.ne, r.ok, q3.ext (upd_none q4), fun p hp => ?_⟩
      · show upd U.F f _ B = none
        rw [upd_ne fB]
        exact r.fB
      · show upd U.F f _ C = none
        rw [upd_ne fC]
        exact r.fC
      · show upd H1 f _ B = _
        rw [upd_ne fB]
        exact kB
      · show upd H1 f _ C = _
        rw [upd_ne fC]
        exact kC
      · obtain ⟨ps, e, _⟩ := r.tab p hp
        show upd U.F f _ p.1 = none
        rw [upd_ne (nf p.1 (by rw [e]; exact fun z => nomatch z))]
        exact r.ft p hp
    refine z (.ref f) V ⟨upd_none hFf, fun a o hm e => ?_, fun a e hn => ?_, fun a hn => ?_⟩ hR ⟨f, c', pm, ctv, rfl, ⟨upd_same, upd_none q4 _ _ q5⟩, code_notM hR (upd_none q4 _ _ q5)⟩
    · show upd H1 f _ a = some o
      rw [upd_ne (nf a (by rw [e]; exact fun z => nomatch z))]
      exact q1 a o (fun z => hm (.inr (.inr ⟨_, L.m, z.symm⟩))) e
    · show upd U.F f _ a = none
      rw [upd_ne (nf a hn)]
      exact e
    · exact upd_some_ne (h1none a hn)
end
/-! ### the family of a lambda's body -/
def loFam (P : Program) (w : World) (K : PySem.W.Frag) (mg : Str → Option Value) (base : Heap) (N : List Str) (nd : N.Nodup) (q : Str) (scope : Scope) (f c' : Addr) (cl : List (Str × Addr)) (k : Nat) : Fam where
  α := { t : Around × List Env × Shared × Hp // RoomG k (t.1.deeper (loEnv q scope t.2.2.1.heap.objs.size f c' cl)) }
  X := fun t => loCx P w K mg base N q scope f c' cl t.1.1 t.1.2.1 t.1.2.2.1 t.1.2.2.2
  P := P
  w := w
  K := K
  mg := mg
  base := base
  N := N
  sc := scope
  k := k
  hP := fun _ => rfl
  hw := fun _ => rfl
  hK := fun _ => rfl
  hmg := fun _ => rfl
  hbase := fun _ => rfl
  hN := fun _ => rfl
  hsc := fun _ => rfl
  hc := fun _ => rfl
  hr := fun t => t.2
  nd := nd
/-- the frozen part alone -/
def fw (F : Hp) : Wd := ⟨F, F, fun _ _ h => h⟩
theorem le_fw {F : Hp} {T : Wd} (h : ∀ a o, F a = some o → T.F a = some o) : Le M0 (fw F) T :=
  ⟨h, fun a o _ e => T.sub a o (h a o e), fun a e k => absurd e k, fun a k => by
    cases e : F a with
    | none => exact absurd e k
    | some o =>
      rw [T.sub a o (h a o e)]
      exact fun z => nomatch z⟩
/-! ### a callable that gives x -/
def CloP (P : Program) (w : World) (K : PySem.W.Frag) (mg : Str → Option Value) (base : Heap) (k : Nat) (W : Wd) (f : Addr) (x : Sv) : Prop :=
  ∀ (X : Cx) (i : Nat) (a : Str) (p1 p2 : Pos), X.prog = P → X.w = w → X.K = K → X.mg = mg → X.base = base → X.calm = true → RoomG k X.A → X.N[i]? = some a → Vis X.env.scope a → (a == ("__debug__" : Str)) = false → (a == ("__classdict__" : Str)) = false →
    PE X (.Call (.Name a p1) [] [] p2) (fun σ H Q => σ[i]? = some (some (.ref f)) ∧ ∃ T : Wd, T.H = H ∧ Le M0 W T ∧ ∀ v T', Le M0 T T' → Is K T'.F v x → Q v T'.H)
theorem CloP.le {P : Program} {w : World} {K : PySem.W.Frag} {mg : Str → Option Value} {base : Heap} {k : Nat} {W W' : Wd} {f : Addr} {x : Sv} (h : CloP P w K mg base k W f x) (l : Le M0 W W') : CloP P w K mg base k W' f x := fun X i a p1 p2 e1 e2 e3 e4 e5 e6 e7 e8 e9 e10 e11 =>
  ⟨fun pins s σ H Q I ⟨q1, T, q2, q3, q4⟩ => (h X i a p1 p2 e1 e2 e3 e4 e5 e6 e7 e8 e9 e10 e11).run pins s σ H Q I ⟨q1, T, q2, l.trans q3, q4⟩⟩
theorem clo_of {P : Program} {w : World} {K : PySem.W.Frag} {mg : Str → Option Value} {base : Heap} {k : Nat} {W : Wd} {f c' : Addr} {x : Sv} {N : List Str} {nd : N.Nodup} {σ0 : L2.St} {cl : List (Str × Addr)} {q : Str} {params : Arguments} {body : Expr} {scope : Scope} {pm ctv : Value} {ob : Addr → Obj} {F0 : Hp} (cs : Addr → Prop)
    (L : loB scope cl) (hcl : ∀ y c, cl.lookup y = some c → cs c) (hbind : bindArgs (PySem.W.kla_fn "<lambda>" q params body scope cl pm (.ref c') ctv) ⟨[], []⟩ = pure []) (hlen : σ0.length = N.length) (hm : madeAt cl q params body scope f c' pm ctv W)
    (hcs : ∀ c, cs c → W.F c = some (.frz (ob c) anyO) ∧ ∃ v, (ob c).data = .cell v) (hval : ∀ (i : Nat) (y : Str) (v : V) (c : Addr), N[i]? = some y → σ0[i]? = some (some v) → cl.lookup y = some c → scope.names.lookup y = some .free → ∃ u, (ob c).data = .cell (some u) ∧ RelV v u)
    (hF : ∀ a o, F0 a = some o → ¬ cs a ∧ W.F a = some o) (hb : E m0 (loFam P w K mg base N nd q scope f c' cl k) σ0 (fw F0) () body x ()) : CloP P w K mg base (k + 1) W f x := by
  intro X i a p1 p2 e1 e2 e3 e4 e5 hc hr hN hv hd hcd
  subst e1 e2 e3 e4 e5
  have h := pe_clo (X := X) (ob := ob) (pm := pm) (ctv := ctv) (p1 := p1) (p2 := p2) (params := params) cs hr hc L hcl hbind hlen (fun A outer s H hr2 => wE_ok (Y := loFam X.prog X.w X.K X.mg X.base N nd q scope f c' cl k) (e := body) ⟨(A, outer, s, H), hr2⟩) hN hv hd hcd
  refine ⟨fun pins s σ H Q I ⟨q1, T, q2, q3, q4⟩ => h.run pins s σ H Q I ?_⟩
  subst q2
  have tc : ∀ c, cs c → T.F c = some (.frz (ob c) anyO) := fun c z => q3.f _ _ (hcs c z).1
  refine ⟨q1, T.sub _ _ (q3.f _ _ hm.1), q3.h _ _ (fun z => z) hm.2, fun c z => ⟨T.sub _ _ (tc c z), (hcs c z).2⟩, hval, ?_⟩
  let U : Wd := ⟨delL T.F cs, delL T.H cs, fun a o e => by
    by_cases z : cs a
    · rw [del_in z] at e
      cases e
    · rw [del_out z] at e ⊢
      exact T.sub a o e⟩
  refine hb U (le_fw fun a o e => ?_) True.intro _ fun v T2 l2 _ p2 hnone => ?_
  · show delL T.F cs a = some o
    rw [del_out (hF a o e).1]
    exact q3.f _ _ (hF a o e).2
  · have fnone : ∀ c, cs c → T2.F c = none := fun c z => T2.fnone (hnone c z)
    refine q4 v ⟨lendH T2.F cs ob, lendH T2.H cs ob, fun a o e => ?_⟩ ⟨fun a o e => ?_, fun a o _ e => ?_, fun a e hn => ?_, fun a hn => ?_⟩ (p2.mono fun a o e => ?_)
    · by_cases z : cs a
      · rw [lend_in z] at e ⊢
        exact e
      · rw [lend_out z] at e ⊢
        exact T2.sub a o e
    · show lendH T2.F cs ob a = some o
      by_cases z : cs a
      · rw [lend_in z, ← tc a z, e]
      · rw [lend_out z]
        exact l2.f a o (by show delL T.F cs a = some o; rw [del_out z]; exact e)
    · show lendH T2.H cs ob a = some o
      by_cases z : cs a
      · rw [lend_in z, ← T.sub _ _ (tc a z), e]
      · rw [lend_out z]
        exact l2.h a o (fun z => z) (by show delL T.H cs a = some o; rw [del_out z]; exact e)
    · show lendH T2.F cs ob a = none
      have z : ¬ cs a := fun z => by
        rw [tc a z] at e
        cases e
      rw [lend_out z]
      exact l2.n a (by show delL T.F cs a = none; rw [del_out z]; exact e) (by show delL T.H cs a ≠ none; rw [del_out z]; exact hn)
    · show lendH T2.H cs ob a ≠ none
      by_cases z : cs a
      · rw [lend_in z]
        exact fun z => nomatch z
      · rw [lend_out z]
        exact l2.k a (by show delL T.H cs a ≠ none; rw [del_out z]; exact hn)
    · show lendH T2.F cs ob a = some o
      rw [lend_out fun z => by
        rw [fnone a z] at e
        cases e]
      exact e
end Pv
set_option Elab.async false
set_option linter.all false
set_option maxRecDepth 100000
set_option maxHeartbeats 4000000
namespace Pv
open PySem PySem.Spec PyProof.Rows L2
/-! ### repr of a list or a tuple -/
def rReprD (K : PySem.W.Frag) : CRd := fun xs H Q => ∃ a d, xs = [.ref a] ∧ Dp K H (.ref a) d ∧ d.showable = true ∧ d.hasDict = false ∧ d.depth ≤ 64 ∧ d.shown.length ≤ sizeLine ∧ Q (.str d.shown) H
theorem call_reprD {X : Cx} (hg : X.A.guards = some []) (hu : X.A.units + 66 < cLine) : CallR X (.builtin "repr") (rReprD X.K) := by
  intro pins s σ H xs us Q I r h
  obtain ⟨a, d, rfl, hd, h1, h2, h3, h4, q⟩ := h
  obtain ⟨u, rfl, rx⟩ := vals1 r
  cases rx
  obtain ⟨as, rd⟩ := Dp.reads I d (.ref a) (.ref a) hd rfl
  exact PySem.repr_of_reads' rd h1 (fun z => by rw [h2] at z; cases z) hg (by omega) (fun _ _ e => e) (fun h' u tk k => ⟨.str d.shown, H, I.kept k, ⟨u, rfl⟩, q⟩) h4
section
variable {m : Mode} {Y : Fam} {σ : L2.St} {W W' : Wd} {i j k l : m.ι} {e a b c : Expr} {es : List Expr} {rest body : List Stmt} {pos p p' : Pos} {x y z : Sv} {d d' : PD} {ds : List PD} {u v : Bool} {D : Ends} {s : Str} {n : Nat}
theorem e_repr (B : BI Y "repr" (.builtin "repr")) (ha : E m Y σ W i e (.d (.list ds)) j) (h1 : (PyData.list ds).showable = true) (h2 : (PyData.list ds).hasDict = false) (h3 : (PyData.list ds).depth ≤ 64) (h4 : (PyData.list ds).shown.length ≤ sizeLine)
    (he : ∀ a, starEach [e] (Y.X a).env = (false, eval e (Y.X a).env) :: starEach [] (Y.X a).env := by intro _; rfl) :
    E m Y σ W i (.Call (.Name "repr" p) [e] [] pos) (.d (.str (PyData.list ds).shown)) j := e_cb B (fun a => by
      have h := call_reprD (X := Y.X a) (Y.hr a).g (by have := (Y.hr a).r.un; omega)
      rw [Y.hK a] at h
      exact h) (ea_cons ha ea_nil he) (fun T vs Q h z => by
  obtain ⟨v, rfl, h5⟩ := h.inv1
  obtain ⟨q, us, rfl, e2, e3⟩ := Is.lst h5
  exact ⟨q, _, rfl, dp_sub T (Dp.lst e2 e3), h1, h2, h3, h4, z _ T (Le.refl T) (Dp.str _)⟩) (he := he)
/-- [..] * n -/
theorem el_mulL {g : Int} (ha : EL m Y σ W i a ds j) (hb : E m Y σ W j b (.d (.int g)) k) (hg : 0 ≤ g ∧ g ≤ 1000) (hl : ds.length ≤ 1000) : EL m Y σ W i (.BinOp a .Mult b pos) (List.replicate g.toNat ds).flatten k := fun U l r Q z =>
  ⟨tOp rRep _ _, fun t => pe_op op_rep (wE_ok t) (wE_ok t), ha U l r _ fun v1 T1 l1 r1 ⟨q, vs, e1, e2, e3, e4, e5⟩ => hb T1 (l.trans l1) r1 _ fun v2 T2 l2 r2 p2 => by
    have h4 : T2.H q = some (.lst vs) := l2.h q _ (m.nm r e2) e4
    have hle : vs.length * g.toNat ≤ 1000 * 1000 := Nat.mul_le_mul (by rw [e5.len]; exact hl) (by omega)
    refine ⟨q, g, vs, e1, p2.int, h4, by omega, by omega, Nat.le_trans hle (by decide), fun p hp => ?_⟩
    exact z (.ref p) (T2.own p _ hp) ((l1.trans l2).trans (Le.own hp)) (m.le0 r2 (Le.own hp)) ⟨p, _, rfl, (l1.trans l2).back hp, T2.fnone hp, upd_same, DpAll.rep (e5.mono l2.f) _⟩⟩
/-- try whose body lets nothing out -/
theorem s_try0 {h0 : ExceptHandler} {hs : List ExceptHandler} (h : wSs Y body { D with nx := fun σ' H' => wSs Y rest D σ' H' } σ W.H) (hx : ∀ a, (Y.X a).nox = Y.X a := by intro _; rfl) : wSs Y (.Try body (h0 :: hs) [] [] p :: rest) D σ W.H :=
  ⟨tSeq (wSs Y body) (wSs Y rest), fun a => pss_cons (ps_try_thru0 (by rw [hx a]; exact wSs_ok (ss := body) a)) (wSs_ok a), h⟩
/-- a call by the promise's own words -/
theorem eg_callS {q : Nat} {st : Stmt} {ps : List Str} {sp : Spg} {P : Wd → List V → Wd → Prop} {P' : Wd → V → Wd → Prop} (C : Cl Y.P Y.w Y.K Y.mg Y.base q s st ps sp) (ha : EAG m Y σ W i (e :: es) P j)
    (hsp : ∀ U vs T, Le m.M W U → Le m.M U T → m.R j T → P U vs T → ∀ Q : VK, (∀ v T', Le M0 T T' → P' U v T' → Q v T'.H) → sp vs T.H Q) (hq : q ≤ Y.k := by exact Nat.le_of_ble_eq_true rfl) (hg : Gb Y s := by rfl) (hdb : (s == ("__debug__" : Str)) = false := by decide)
    (he : ∀ a, starEach (e :: es) (Y.X a).env = (false, eval e (Y.X a).env) :: starEach es (Y.X a).env := by intro _; rfl) (hpl : ∀ a, (backTo pos (starEach es (Y.X a).env)).any (·.1) = false := by intro _; rfl) :
    EG m Y σ W i (.Call (.Name s p) (e :: es) [] pos) P' j := by
  obtain ⟨f, fd, h1, h2, h3⟩ := C.ex
  exact fun U l r Q z => ⟨fun σ H Q => wA Y (e :: es) σ H fun vs H1 => sp vs H1 Q, fun a => pe_callG (by rw [Y.hP, Y.hw, Y.hK, Y.hmg, Y.hbase]; exact h3) ((Y.hr a).mono hq) (hg.gl a) (by rw [Y.hmg]; exact h1) (by rw [Y.hK]; exact h2.kp) (by rw [Y.hK]; exact h2.bindsN C.b) (wA_ok a) hdb (he a) (hpl a),
    ha U l r _ fun vs T l1 r1 p1 => hsp U vs T l l1 r1 p1 Q fun v T' l2 p2 => z v T' (l1.trans l2.of0) (m.le0 r1 l2) p2⟩
end
section
variable {Y : Fam} {σ : L2.St} {W : Wd} {i : m0.ι} {x : Sv} {s : Str} {p1 p2 : Pos}
/-- call(), a callable that gives x -/
theorem e_clo {k : Nat} {f : Addr} (n : Nat) (h : CloP Y.P Y.w Y.K Y.mg Y.base k W f x) (hk : k ≤ Y.k := by exact Nat.le_of_ble_eq_true rfl) (hN : Y.N[n]? = some s := by rfl) (hv : visB Y.sc s = true := by rfl) (hs : σ[n]? = some (some (.ref f)) := by rfl) (hd : (s == ("__debug__" : Str)) = false := by decide) (hcd : (s == ("__classdict__" : Str)) = false := by decide) :
    E m0 Y σ W i (.Call (.Name s p1) [] [] p2) x i := fun U l r Q z =>
  ⟨fun σ H Q => σ[n]? = some (some (.ref f)) ∧ ∃ T : Wd, T.H = H ∧ Le M0 W T ∧ ∀ v T', Le M0 T T' → Is Y.K T'.F v x → Q v T'.H, fun a => h (Y.X a) n s p1 p2 (Y.hP a) (Y.hw a) (Y.hK a) (Y.hmg a) (Y.hbase a) (Y.hc a) ((Y.hr a).mono hk) (by rw [Y.hN]; exact hN) (by rw [Y.hsc]; exact vis_of hv) hd hcd,
    hs, U, rfl, l, fun v T' l2 p => z v T' l2 True.intro p⟩
end
/-! ### the promises of told, same, is -/
def toldSp (P : Program) (w : World) (K : PySem.W.Frag) (mg : Str → Option Value) (base : Heap) (k : Nat) : Spg := fun vs H Q => ∃ (W : Wd) (f : Addr) (d : PD), W.H = H ∧ vs = [.ref f] ∧ CloP P w K mg base k W f (.d d) ∧ ∀ v T, Le M0 W T → Is K T.F v (.d (.list [.str "told", d])) → Q v T.H
/-- data that may be shown and compared: depth, weight -/
structure Nz (k n : Nat) (d : PD) : Prop where
  sh : Shp k d
  show_ : d.showable = true
  nd : d.hasDict = false
  w : d.weight ≤ n
  sm : d.intsShort 13 = true
theorem Nz.mono {k k' n n' : Nat} {d : PD} (h : Nz k n d) (h1 : k ≤ k') (h2 : n ≤ n') : Nz k' n' d := ⟨h.sh.mono h1, h.show_, h.nd, Nat.le_trans h.w h2, h.sm⟩
theorem nz_non {k n : Nat} : Nz k n .none := ⟨shp_non, rfl, rfl, Nat.zero_le _, rfl⟩
theorem nz_bl {k n : Nat} (b : Bool) : Nz k n (.bool b) := ⟨shp_bl b, rfl, rfl, Nat.zero_le _, rfl⟩
theorem nz_int {k : Nat} {i : Int} (h : i.natAbs < 10 ^ 12) : Nz k 40 (.int i) := by
  have hw : PyData.weight (.int i) ≤ 40 := by
    simp only [PyData.weight]
    split
    · exact Nat.zero_le _
    · rename_i hz
      have hne : i.natAbs ≠ 0 := fun z => hz (by simpa using Int.natAbs_eq_zero.mp z)
      have : i.natAbs.log2 < 40 := (Nat.log2_lt hne).mpr (by omega)
      omega
  have hl : i.natAbs.log2 < 1920 := by
    by_cases hz : i.natAbs = 0
    · rw [hz]
      decide
    · have : i.natAbs.log2 < 40 := (Nat.log2_lt hz).mpr (by omega)
      omega
  refine ⟨shp_int i, by simp [PyData.showable, hl], rfl, hw, ?_⟩
  have := PyData.intsShortAll_ints [i] (fun n hn => by
    have : n = i := by simpa using hn
    rw [this]
    exact h)
  simpa [PyData.intsShortAll] using this
theorem nz_all {k n : Nat} : ∀ {ds : List PD}, (∀ d ∈ ds, Nz k n d) → PyData.showableAll ds = true ∧ PyData.hasDictAll ds = false ∧ PyData.weightAll ds ≤ ds.length * (n + 1) ∧ PyData.intsShortAll 13 ds = true
  | [], _ => ⟨rfl, rfl, Nat.zero_le _, rfl⟩
  | d :: ds, h => by
    obtain ⟨h1, h2, h3, h4⟩ := nz_all (ds := ds) fun x hx => h x (List.mem_cons_of_mem _ hx)
    have hd := h d List.mem_cons_self
    refine ⟨by simp [PyData.showableAll, h1, hd.show_], by simp [PyData.hasDictAll, h2, hd.nd], ?_, by simp [PyData.intsShortAll, h4, hd.sm]⟩
    have := hd.w
    simp only [PyData.weightAll, List.length_cons, Nat.succ_mul]
    omega
theorem nz_list {k n N : Nat} {ds : List PD} (h : ∀ d ∈ ds, Nz k n d) (hN : ds.length * (n + 1) ≤ N) : Nz (k + 1) N (.list ds) := by
  obtain ⟨h1, h2, h3, h4⟩ := nz_all h
  exact ⟨shp_list fun d hd => (h d hd).sh, by simpa [PyData.showable] using h1, by simpa [PyData.hasDict] using h2, by simp only [PyData.weight]; omega, by simpa [PyData.intsShort] using h4⟩
theorem nz_tup {k n N : Nat} {ds : List PD} (h : ∀ d ∈ ds, Nz k n d) (hN : ds.length * (n + 1) ≤ N) : Nz (k + 1) N (.tuple ds) := by
  obtain ⟨h1, h2, h3, h4⟩ := nz_all h
  exact ⟨shp_tup fun d hd => (h d hd).sh, by simpa [PyData.showable] using h1, by simpa [PyData.hasDict] using h2, by simp only [PyData.weight]; omega, by simpa [PyData.intsShort] using h4⟩
theorem nz_str {k n : Nat} {s : Str} (h : PyData.strOk s = true) (hn : s.cps.size ≤ n) : Nz k n (.str s) := ⟨shp_str h, rfl, rfl, by simpa [PyData.weight] using hn, rfl⟩
theorem nz_cons {k n : Nat} {d : PD} {ds : List PD} (h : Nz k n d) (h2 : ∀ x ∈ ds, Nz k n x) : ∀ x ∈ d :: ds, Nz k n x := fun x hx => by
  rcases List.mem_cons.mp hx with rfl | z
  · exact h
  · exact h2 x z
theorem nz_nil {k n : Nat} : ∀ x ∈ ([] : List PD), Nz k n x := fun x hx => by cases hx
theorem Nz.fits {d : PD} (h : Nz 64 1048576 d) : d.shown.length ≤ sizeLine := PyData.shown_fits_of_layable0 (B := 13) (by decide) (by decide) (by
  unfold PyData.layable0
  rw [h.sh.1, decide_eq_true h.sh.2, decide_eq_true (show PyData.weight d ≤ 2 ^ 20 from h.w)]
  rfl) h.sm
abbrev Nc (d : PD) : Prop := Nz 50 200000 d
def sameR : List Sv → Sv → Prop := fun xs y => ∃ ds, xs = [.d (.list ds), .d (.list ds)] ∧ Nz 60 1048576 (.list ds) ∧ y = .d (.bool true)
def isSp (P : Program) (w : World) (K : PySem.W.Frag) (mg : Str → Option Value) (base : Heap) (k : Nat) : Spg := fun vs H Q => ∃ (W : Wd) (v : V) (f1 f2 : Addr) (d : PD), W.H = H ∧ vs = [v, .ref f1, .ref f2] ∧ Is K W.F v (.d d) ∧ CloP P w K mg base k W f1 (.d d) ∧ CloP P w K mg base k W f2 (.d d) ∧ Nc d ∧
  ∀ v T, Le M0 W T → Is K T.F v (.d (.bool true)) → Q v T.H
mutual
theorem eqv_refl : ∀ d : PD, d.canLay0 = true → PyData.eqv d d = true
  | .none, _ => rfl
  | .bool _, _ => by simp [PyData.eqv]
  | .int _, _ => by simp [PyData.eqv]
  | .str _, _ => by simp [PyData.eqv]
  | .list xs, h => by
    have := eqvs_refl xs (by simpa [PyData.canLay0] using h)
    simpa [PyData.eqv] using this
  | .tuple xs, h => by
    have := eqvs_refl xs (by simpa [PyData.canLay0] using h)
    simpa [PyData.eqv] using this
  | .dict _, h => by cases h
theorem eqvs_refl : ∀ ds : List PD, PyData.canLayAll0 ds = true → PyData.eqvAll ds ds = true
  | [], _ => by simp [PyData.eqvAll]
  | d :: ds, h => by
    have h' : d.canLay0 = true ∧ PyData.canLayAll0 ds = true := by simpa [PyData.canLayAll0] using h
    simp [PyData.eqvAll, eqv_refl d h'.1, eqvs_refl ds h'.2]
end
end Pv
set_option Elab.async false
set_option linter.all false
set_option maxRecDepth 100000
set_option maxHeartbeats 4000000
namespace Pv
open PySem PySem.Spec PyProof.Rows L2
section
variable {X : Cx} {scope sc : Scope}
theorem clo_cm (has : ∀ y ∈ scope.names, y.2 = .free → ∃ c, X.env.cells.lookup y.1 = some c) {y : Str} {c : Addr} (e : (cloFrom X.env.cells scope.names []).lookup y = some c) : X.env.cells.lookup y = some c := by
  rcases cloFrom_mem (PySem.mem_of_lookup e) with hm | ⟨h1, h2⟩
  · cases hm
  · obtain ⟨c1, hc⟩ := has _ h1 rfl
    have hc' : X.env.cells.lookup y = some c1 := hc
    rw [hc'] at h2 ⊢
    rw [h2]
    rfl
theorem clo_lo (ok : LamOk sc scope) (hsc : X.env.scope = sc) {σ : L2.St} {H : Hp} {ob : Addr → Obj} (LO : LendOk X σ H ob) : (∀ y ∈ scope.names, y.2 = .free → ∃ c, X.env.cells.lookup y.1 = some c) ∧ loB scope (cloFrom X.env.cells scope.names []) := by
  have has : ∀ y ∈ scope.names, y.2 = .free → ∃ c, X.env.cells.lookup y.1 = some c := fun y hy e => LO.has _ (by
    show X.env.scope.names.lookup y.1 = _ ∨ X.env.scope.names.lookup y.1 = _
    rw [hsc]
    exact ok.free y hy e)
  refine ⟨has, ok.kind, ok.co, ok.gen, ok.own, fun y hy e => ?_, fun x y c h1 h2 => LO.inj x y c (clo_cm has h1) (clo_cm has h2)⟩
  have hy2 : (y.1, NameKind.free) ∈ scope.names := by
    rw [← e]
    exact hy
  exact mem_lookup (cloFrom_has (cells := X.env.cells) (acc := []) hy2)
end
/-- the world with the cells lent -/
noncomputable def Wd.lend (T : Wd) (cs : Addr → Prop) (ob : Addr → Obj) : Wd := ⟨lendH T.F cs ob, lendH T.H cs ob, fun a o e => by
  by_cases z : cs a
  · rw [lend_in z] at e ⊢
    exact e
  · rw [lend_out z] at e ⊢
    exact T.sub a o e⟩
noncomputable def Wd.back (T : Wd) (cs : Addr → Prop) : Wd := ⟨delL T.F cs, delL T.H cs, fun a o e => by
  by_cases z : cs a
  · rw [del_in z] at e
    cases e
  · rw [del_out z] at e ⊢
    exact T.sub a o e⟩
theorem lend_f {T : Wd} {cs : Addr → Prop} {ob : Addr → Obj} (hn : ∀ c, cs c → T.H c = none) : ∀ a o, T.F a = some o → ¬ cs a ∧ (T.lend cs ob).F a = some o := fun a o e => by
  have z : ¬ cs a := fun z => by
    have := T.sub a o e
    rw [hn a z] at this
    cases this
  refine ⟨z, ?_⟩
  show lendH T.F cs ob a = some o
  rw [lend_out z]
  exact e
theorem lend_h {T : Wd} {cs : Addr → Prop} {ob : Addr → Obj} (hn : ∀ c, cs c → T.H c = none) : ∀ a o, T.H a = some o → (T.lend cs ob).H a = some o := fun a o e => by
  show lendH T.H cs ob a = some o
  rw [lend_out fun z => by
    rw [hn a z] at e
    cases e]
  exact e
theorem le_back {T T' : Wd} {cs : Addr → Prop} {ob : Addr → Obj} (hn : ∀ c, cs c → T.H c = none) (l : Le M0 (T.lend cs ob) T') : Le M0 T (T'.back cs) := by
  have nz : ∀ a, T.H a ≠ none → ¬ cs a := fun a h z => h (hn a z)
  refine ⟨fun a o e => ?_, fun a o _ e => ?_, fun a e h => ?_, fun a h => ?_⟩
  · obtain ⟨z, e2⟩ := lend_f (ob := ob) hn a o e
    show delL T'.F cs a = some o
    rw [del_out z]
    exact l.f a o e2
  · show delL T'.H cs a = some o
    rw [del_out (nz a (by rw [e]; exact fun z => nomatch z))]
    exact l.h a o (fun z => z) (lend_h hn a o e)
  · show delL T'.F cs a = none
    rw [del_out (nz a h)]
    refine l.n a ?_ ?_
    · show lendH T.F cs ob a = none
      rw [lend_out (nz a h)]
      exact e
    · show lendH T.H cs ob a ≠ none
      rw [lend_out (nz a h)]
      exact h
  · show delL T'.H cs a ≠ none
    rw [del_out (nz a h)]
    refine l.k a ?_
    show lendH T.H cs ob a ≠ none
    rw [lend_out (nz a h)]
    exact h
section
variable {B Cc : Addr} {T : List (Addr × Str)} {Y : Fam} {σ : L2.St} {W : Wd} {i j : Bag} {qn s : Str} {P : Addr} {d : PD} {due b1 b2 : Expr} {pa1 pa2 : Arguments} {sc1 sc2 : Scope} {po1 po2 p pos : Pos}
/-- a lambda of the frame, made at a world, gives x -/
theorem clo_at {kk : Nat} {a0 : Y.α} {x : Sv} {T0 : Wd} {ob : Addr → Obj} {pa : Arguments} {b : Expr} {sc : Scope} {f c' : Addr} {pm ctv : Value} (LO : LendOk (Y.X a0) σ T0.H ob) (hk : lamB Y.sc sc = true) (hm : madeAt (cloFrom (Y.X a0).env.cells sc.names []) qn pa b sc f c' pm ctv T0) (hlen : σ.length = Y.N.length)
    (hbind : ∀ (q : Str) (cl : List (Str × Addr)) (pm cv ctv : Value), bindArgs (PySem.W.kla_fn "<lambda>" q pa b sc cl pm cv ctv) ⟨[], []⟩ = pure []) (hF : ∀ a o, W.F a = some o → T0.F a = some o)
    (hb : ∀ f c' cl, E m0 (loFam Y.P Y.w Y.K Y.mg Y.base Y.N Y.nd qn sc f c' cl kk) σ (fw W.F) () b x ()) : CloP Y.P Y.w Y.K Y.mg Y.base (kk + 1) (T0.lend (isC (Y.X a0)) ob) f x := by
  have ok := lamOk_of hk
  have hn : ∀ c, isC (Y.X a0) c → T0.H c = none := fun c z => (LO.c c z).1
  obtain ⟨has, lo⟩ := clo_lo ok (Y.hsc a0) LO
  refine clo_of (σ0 := σ) (N := Y.N) (nd := Y.nd) (F0 := W.F) (ob := ob) (isC (Y.X a0)) lo (fun y c e => ⟨y, clo_cm has e⟩) (hbind _ _ _ _ _) hlen ⟨(lend_f hn _ _ hm.1).2, lend_h hn _ _ hm.2⟩ (fun c z => ⟨lend_in z, (LO.c c z).2⟩) (fun i y v c h1 h2 h3 h4 => ?_) (fun a o e => lend_f hn a o (hF a o e)) (hb f c' _)
  refine LO.at_ i y v c (by rw [Y.hN]; exact h1) h2 (clo_cm has h3) ?_
  show (Y.X a0).env.scope.names.lookup y = _ ∨ (Y.X a0).env.scope.names.lookup y = _
  rw [Y.hsc]
  exact ok.free _ (PySem.mem_of_lookup h4) rfl
theorem e_is {q0 kk : Nat} {st : Stmt} {ps : List Str} (a0 : Y.α) (C : Cl Y.P Y.w Y.K Y.mg Y.base q0 s st ps (isSp Y.P Y.w Y.K Y.mg Y.base (kk + 1))) (L : LamY Y T qn P) (hd : E (lawM B Cc T) Y σ W i due (.d d) j) (hn : Nc d)
    (h1 : ∀ f c' cl, E m0 (loFam Y.P Y.w Y.K Y.mg Y.base Y.N Y.nd qn sc1 f c' cl kk) σ (fw W.F) () b1 (.d d) ()) (h2 : ∀ f c' cl, E m0 (loFam Y.P Y.w Y.K Y.mg Y.base Y.N Y.nd qn sc2 f c' cl kk) σ (fw W.F) () b2 (.d d) ())
    (hps : ps.length = 3 := by rfl) (hq : q0 ≤ Y.k := by exact Nat.le_of_ble_eq_true rfl) (hlen : σ.length = Y.N.length := by rfl) (hk1 : lamB Y.sc sc1 = true := by rfl) (hk2 : lamB Y.sc sc2 = true := by rfl)
    (hb1 : ∀ (q : Str) (cl : List (Str × Addr)) (pm cv ctv : Value), bindArgs (PySem.W.kla_fn "<lambda>" q pa1 b1 sc1 cl pm cv ctv) ⟨[], []⟩ = pure [] := by intros; rfl) (hb2 : ∀ (q : Str) (cl : List (Str × Addr)) (pm cv ctv : Value), bindArgs (PySem.W.kla_fn "<lambda>" q pa2 b2 sc2 cl pm cv ctv) ⟨[], []⟩ = pure [] := by intros; rfl)
    (hdf1 : ∀ a, defaultsOf pa1 (Y.X a).env = ([], []) := by intro _; rfl) (hdf2 : ∀ a, defaultsOf pa2 (Y.X a).env = ([], []) := by intro _; rfl)
    (hg : Gb Y s := by rfl) (hdb : (s == ("__debug__" : Str)) = false := by decide)
    (he : ∀ a, starEach [due, .Lambda pa1 b1 sc1 po1, .Lambda pa2 b2 sc2 po2] (Y.X a).env = (false, eval due (Y.X a).env) :: starEach [.Lambda pa1 b1 sc1 po1, .Lambda pa2 b2 sc2 po2] (Y.X a).env := by intro _; rfl) (hpl : ∀ a, (backTo pos (starEach [.Lambda pa1 b1 sc1 po1, .Lambda pa2 b2 sc2 po2] (Y.X a).env)).any (·.1) = false := by intro _; rfl) :
    E (lawM B Cc T) Y σ W i (.Call (.Name s p) [due, .Lambda pa1 b1 sc1 po1, .Lambda pa2 b2 sc2 po2] [] pos) (.d (.bool true)) j := by
  obtain ⟨f, fd, m1, m2, m3⟩ := C.ex
  intro U l r Q z
  have ha : EAG (lawM B Cc T) Y σ W i [due, .Lambda pa1 b1 sc1 po1, .Lambda pa2 b2 sc2 po2] _ j := eg_cons hd (eg_cons (eg_lam a0 L hk1 hdf1) (eg_cons (eg_lam a0 L hk2 hdf2) eg_nil)) he
  refine ⟨fun σ H Q => wA Y [due, .Lambda pa1 b1 sc1 po1, .Lambda pa2 b2 sc2 po2] σ H fun vs H1 => vs.length = ps.length ∧ ∀ ob : Addr → Obj, LendOk (Y.X a0) σ H1 ob → isSp Y.P Y.w Y.K Y.mg Y.base (kk + 1) vs (lendH H1 (isC (Y.X a0)) ob) (fun v H2 => Q v (delL H2 (isC (Y.X a0)))), fun a => ?_, ha U l r _ ?_⟩
  · have e := L.one a a0
    subst e
    exact pe_callLend (by rw [Y.hP, Y.hw, Y.hK, Y.hmg, Y.hbase]; exact m3) ((Y.hr a).mono hq) (L.fn a) (hg.gl a) (by rw [Y.hmg]; exact m1) (by rw [Y.hK]; exact m2.kp) (by rw [Y.hK]; exact m2.bindsN C.b) (wA_ok a) hdb (he a) (hpl a)
  · rintro vs T0 l0 r0 ⟨v, _, Ta, rfl, la, hv, lb, _, _, Tb, rfl, lc, ⟨f1, c1, pm1, ct1, rfl, mk1, nm1⟩, ld, _, _, Td, rfl, le, ⟨f2, c2, pm2, ct2, rfl, mk2, nm2⟩, lf, rfl⟩
    refine ⟨hps.symm, fun ob LO => ?_⟩
    have hnn : ∀ c, isC (Y.X a0) c → T0.H c = none := fun c z => (LO.c c z).1
    have WF : ∀ a o, W.F a = some o → T0.F a = some o := fun a o e => l0.f _ _ (l.f _ _ e)
    have k1 := clo_at (W := W) LO hk1 (mk1.le ld nm1) hlen hb1 WF h1
    have k2 := clo_at (W := W) LO hk2 (mk2.le lf nm2) hlen hb2 WF h2
    refine ⟨T0.lend (isC (Y.X a0)) ob, v, f1, f2, d, rfl, rfl, (hv.le lb).mono fun a o e => (lend_f hnn a o e).2, k1, k2, hn, fun v' T' l' hv' => ?_⟩
    have lbk := le_back hnn l'
    have e : v' = .bl true := Is.bl hv'
    subst e
    exact z (.bl true) (T'.back (isC (Y.X a0))) (l0.trans lbk.of0) ((lawM B Cc T).le0 r0 lbk) (Dp.bl true)
end
end Pv
set_option Elab.async false
set_option linter.all false
set_option maxRecDepth 100000
set_option maxHeartbeats 4000000
namespace RT
open PySem PySem.Spec PyProof.Rows L2
section
variable {prog : Program} {w : World} {A : Around} {s : Shared} {R : Result → Shared → Prop} {E : Value → Shared → Prop}
/-- an empty list takes what a turned-about list gives -/
theorem extendRev {J q S : Addr} {xs : Array Value} {res : Value} {c₀ : Nat} (hd : A.handled = none) (at_ : s.heap.IsRevIter J q ((xs.size : Int) - 1)) (of_ : s.heap.IsList q xs) (nq : q ≠ J) (nJ : S ≠ J) (nS : S ≠ q) (small : xs.size ≤ sizeLine)
    (new : s.heap.get? S = some { cls := .type "list", data := .seq #[] c₀ })
    (out : ∀ s' acc' c', Moved [S, J] (fun a b => b = a) s s' → s'.heap.get? S = some { cls := .type "list", dict := none, data := .seq acc' c', slots := #[] } → ItemsOf (fun i v => xs[xs.size - 1 - i]? = some v) acc' xs.size → R (.ok (.ret res)) s') :
    wpAny (model prog w) A.in1 (Builtin.List.listExtendWith (.ref S) (.ref J) res) (fun fin s' => match fin with | .done f => R (.ok f) s' | .again c' => c'.quiet = true ∧ codeAny (model prog w) A c' R s') (fun e s' => R (.error e) s') s := by
  have G := (Walks.listRev (prog := prog) (w := w) (A := A.in1) hd J q nq xs).toS
  have nin : S ∉ [J, q] := by
    simp only [List.mem_cons, List.not_mem_nil, or_false, not_or]
    exact ⟨nJ, nS⟩
  have ty : s.TypeIs (.ref J) "list_reverseiterator" := at_.typeIs
  have same : Builtin.List.listSameRef (.ref S) (.ref J) = false := by simp [Builtin.List.listSameRef, nJ]
  unfold Builtin.List.listExtendWith
  refine wpAny_bind (wpAny_typeOf ty ?_)
  rw [if_neg (show ¬ _ by rw [same]; decide)]
  refine wpAny_bind (wpAny_pyIter_revIter at_ (wpAny_bind (wpAny_holding ?_)))
  unfold Builtin.List.listLengthHint
  refine wpAny_bind (wpAny_specialOf ty nolen_lri (show wpAny _ A.in1 (specialOf (Value.ref J) (Str.ofString "__length_hint__") >>= _) _ _ _ from wpAny_bind (wpAny_specialOf ty hint_lri ?_)))
  generalize nm : ("list_reverseiterator.__length_hint__" : String) = nm0
  wp_delta
  rw [show splitId nm0 = some ("list_reverseiterator", "__length_hint__") by subst nm; decide +kernel]
  subst nm
  refine wpAny_bind (wpAny_isInstance (b := true) ty (show _ by rw [isSubtype_type]; kernel_rfl) (wpAny_pure ?_))
  rw [if_neg (show ¬ _ by decide)]
  have e0 : ((xs.size : Nat) : Int) - 1 - ((0 : Nat) : Int) = (xs.size : Int) - 1 := by omega
  exact wpAny_pure ⟨plainId_quiet F.plain_extend_loop _, codeAny_extend_loopS G small _ nin res xs.size 0 _ _ _ rfl (Nat.zero_le _) ⟨Nat.zero_le _, (by rw [e0]; exact at_), of_⟩ new (ItemsOf.nil _) fun s' acc' c' hm hS' hacc => out s' acc' c' hm hS' hacc⟩
theorem initRev {J q S : Addr} {xs : Array Value} (hd : A.handled = none) (at_ : s.heap.IsRevIter J q ((xs.size : Int) - 1)) (of_ : s.heap.IsList q xs) (nq : q ≠ J) (nJ : S ≠ J) (nS : S ≠ q) (small : xs.size ≤ sizeLine)
    (new : s.heap.get? S = some { cls := .type "list", data := .seq #[] })
    (out : ∀ h' tk acc' c', (∀ b o, b ≠ S → b ≠ J → s.heap.get? b = some o → h'.get? b = some o) → h'.get? S = some { cls := .type "list", dict := none, data := .seq acc' c', slots := #[] } → ItemsOf (fun i v => xs[xs.size - 1 - i]? = some v) acc' xs.size → R (.ok (.ret .none)) { s with heap := h', toks := tk }) :
    wpAny (model prog w) A.in1 (Builtin.«list.__init__» ⟨[.ref S, .ref J], []⟩) (fun fin s' => match fin with | .done f => R (.ok f) s' | .again c' => c'.quiet = true ∧ codeAny (model prog w) A c' R s') (fun e s' => R (.error e) s') s := by
  show wpAny _ A.in1 (Builtin.List.listItems (.ref S) >>= fun old => Builtin.List.listUpdate (.ref S) (fun _ => #[]) >>= fun _ => letGo old.toList.reverse >>= fun _ => Builtin.List.listExtendWith (.ref S) (.ref J) .none) _ _ s
  unfold Builtin.List.listItems
  refine wpAny_bind (wpAny_bind (wpAny_seqItems new rfl (wpAny_pure ?_)))
  show wpAny _ A.in1 (updateSeq S (fun _ => #[]) >>= fun _ => letGo (#[] : Array Value).toList.reverse >>= fun _ => Builtin.List.listExtendWith (.ref S) (.ref J) .none) _ _ s
  have old : ∀ b o, b ≠ S → s.heap.get? b = some o → (s.heap.update S (Obj.mapSeq (fun _ => (#[] : Array Value)))).get? b = some o := fun b o hb e => (Heap.get?_update_other _ _ (Ne.symm hb)).trans e
  refine wpAny_bind (wpAny_updateSeq new rfl (wpAny_bind (wpAny_letGo ?_)))
  refine extendRev (s := { s with heap := s.heap.update S (Obj.mapSeq (fun _ => (#[] : Array Value))) }) hd (at_.at fun o e => old J o (Ne.symm nJ) e) (of_.at fun o e => old q o (Ne.symm nS) e) nq nJ nS small (Heap.get?_update_self (Obj.mapSeq (fun _ => (#[] : Array Value))) new rfl) fun s' acc' c' hm hS' hacc => ?_
  rw [Moved.eq_with hm]
  refine out s'.heap s'.toks acc' c' (fun b o b1 b2 e => hm.heap b o (fun z => ?_) (old b o b1 e)) hS' hacc
  rcases List.mem_cons.mp z with z | z
  · exact b1 z
  · exact b2 (List.mem_singleton.mp z)
end
section
variable {prog : Program} {w : World} {A : Around} {s : Shared} {E : Value → Shared → Prop}
theorem callListRev {J q : Addr} {xs : Array Value} {Q : Value → Shared → Prop} (hd : A.handled = none) (at_ : s.heap.IsRevIter J q ((xs.size : Int) - 1)) (of_ : s.heap.IsList q xs) (nq : q ≠ J) (small : xs.size ≤ sizeLine)
    (out : ∀ h' tk acc' c', (∀ b o, b ≠ J → s.heap.get? b = some o → h'.get? b = some o) → h'.get? s.heap.objs.size = some { cls := .type "list", dict := none, data := .seq acc' c', slots := #[] } → ItemsOf (fun i v => xs[xs.size - 1 - i]? = some v) acc' xs.size → Q (.ref s.heap.objs.size) { s with heap := h', toks := tk }) :
    wpAny (model prog w) A (call (.type "list") [.ref J]) Q E s := by
  obtain ⟨oj, hoj, _⟩ := id at_
  obtain ⟨oq, hoq, _⟩ := id of_
  have n1 : s.heap.objs.size ≠ J := Nat.ne_of_gt (Heap.lt_size hoj)
  have n2 : s.heap.objs.size ≠ q := Nat.ne_of_gt (Heap.lt_size hoq)
  refine callType_codes (Q₁ := fun obj s₁ => obj = .ref s.heap.objs.size ∧ s₁ = { s with heap := s.heap.push { cls := .type "list", data := .seq #[] } }) F.called_list (F.typeCall_list_1 _) F.entry_list_init (code_list_new _ ⟨rfl, rfl⟩) ?_
  rintro obj s₁ ⟨rfl, rfl⟩
  have hS : (s.heap.push { cls := .type "list", data := .seq #[] }).get? s.heap.objs.size = some { cls := .type "list", data := .seq #[] } := Heap.get?_push_size _ rfl
  refine ⟨⟨_, hS, rfl⟩, F.args_list_init_2 _ _, initRev (A := A.in1) (s := { s with heap := s.heap.push { cls := .type "list", data := .seq #[] } }) hd (at_.at fun o e => Heap.get?_push_of_some _ e) (of_.push _) nq n1 n2 small hS fun h' tk acc' c' hk hS' hacc => ?_⟩
  exact ⟨rfl, out h' tk acc' c' (fun b o hb e => hk b o (Nat.ne_of_lt (Heap.lt_size e)) hb (Heap.get?_push_of_some _ e)) hS' hacc⟩
end
/-- list(reversed(x)), x a list: a new list -/
def tListRev (K : PySem.W.Frag) (te : TE) : TE := fun σ H Q => te σ H fun v H1 => ∃ (a : Addr) (xs : List V), v = .ref a ∧ SqL K H1 a xs ∧ ∀ q, H1 q = none → Q (.ref q) (upd H1 q (.lst xs.reverse))
theorem pe_listRev {X : Cx} {e : Expr} {te : TE} {p p2 pos pos2 : Pos} (hc : X.calm = true) (hg : Gl X "list") (hm : X.mg "list" = none) (hg2 : Gl X "reversed") (hm2 : X.mg "reversed" = none) (he : PE X e te)
    (hs : starEach [e] X.env = (false, eval e X.env) :: starEach [] X.env) (hs2 : starEach [.Call (.Name "reversed" p2) [e] [] pos2] X.env = (false, eval (.Call (.Name "reversed" p2) [e] [] pos2) X.env) :: starEach [] X.env) :
    PE X (.Call (.Name "list" p) [.Call (.Name "reversed" p2) [e] [] pos2] [] pos) (tListRev X.K te) := by
  refine ⟨fun pins s σ H Q I h => ?_⟩
  refine Call_ (ld_blt I hg hm boot_list (callWith_type1 (args_cons (Call_ (ld_blt I hg2 hm2 boot_reversed (callWith_type1 (args_cons (thn (he.run pins s σ H _ I h) fun u s1 ⟨v, H1, I1, r1, a, xs, ev, hq, q⟩ => args_nil ?_) hs) hs rfl))) hs2) hs2 rfl))
  subst ev
  cases r1
  obtain ⟨its, rv, p', hz⟩ := I1.list hq
  have hl := p'.isList
  obtain ⟨ol, hol, _⟩ := id hl
  have hne : a ≠ s1.heap.objs.size := Nat.ne_of_lt (Heap.lt_size hol)
  have hn : its.toArray.size ≤ sizeLine := by rw [List.size_toArray, ← rv.length]; exact hz
  refine call_reversed_list hl (args_nil ?_)
  obtain ⟨f0, f1, f2, f3, f4, f5⟩ := I1.fpOk (H' := H1) (b := s1.heap.objs.size) (Nat.le_refl _) (I1.hok.fresh (Nat.le_refl _))
  have I2 : Inv X pins σ H1 { s1 with heap := s1.heap.push (revObj a ((its.toArray.size : Int) - 1)) } := I1.kept (t' := s1.toks) fun b o e => Heap.get?_push_of_some _ e
  refine callListRev (s := { s1 with heap := s1.heap.push (revObj a ((its.toArray.size : Int) - 1)) }) (I1.ok.hd hc) ⟨_, Heap.get?_push_size _ rfl, rfl, rfl⟩ (hl.push _) hne hn fun h' tk acc c' hk hS hi => ?_
  have hT : s1.heap.objs.size ≤ (s1.heap.push (revObj a ((its.toArray.size : Int) - 1))).objs.size := by
    rw [Heap.size_push]
    exact Nat.le_succ _
  refine ⟨.ref (s1.heap.push (revObj a ((its.toArray.size : Int) - 1))).objs.size, _, I1.turnedNew (t' := tk) (ch := [s1.heap.objs.size]) (ob := .lst xs.reverse) (fun b o hb e => hk b o (fun z => hb (by simp [z])) (Heap.get?_push_of_some _ e)) (fun b hb => ?_) hT ⟨by rw [List.length_reverse]; exact hz, acc.toList, c', vals_rev rv hi, ?_⟩, rfl, q _ (I1.hok.fresh hT)⟩
  · have : b = s1.heap.objs.size := by simpa using hb
    subst this
    exact ⟨f0, f1, f2, f3, f4, f5⟩
  · rw [Array.toArray_toList]
    exact hS
end RT
namespace Pv
open PySem PySem.Spec PyProof.Rows L2
section
variable {m : Mode} {Y : Fam} {σ : L2.St} {W W' : Wd} {i j k l : m.ι} {e a b c : Expr} {rest body : List Stmt} {pos pos2 p p2 p' ap cp : Pos} {x y z : Sv} {d d' : PD} {ds : List PD} {u v : Bool} {D : Ends} {s : Str} {n : Nat} {α : Type}
theorem el_listRev (BL : BI Y "list" (.type "list")) (BR : BI Y "reversed" (.type "reversed")) (ha : ERl m Y σ W i e ds j) (hs : ∀ a, starEach [e] (Y.X a).env = (false, eval e (Y.X a).env) :: starEach [] (Y.X a).env := by intro _; rfl)
    (hs2 : ∀ a, starEach [.Call (.Name "reversed" p2) [e] [] pos2] (Y.X a).env = (false, eval (.Call (.Name "reversed" p2) [e] [] pos2) (Y.X a).env) :: starEach [] (Y.X a).env := by intro _; rfl) :
    EL m Y σ W i (.Call (.Name "list" p) [.Call (.Name "reversed" p2) [e] [] pos2] [] pos) ds.reverse j := fun U h1 r Q z =>
  ⟨RT.tListRev Y.K (wE Y e), fun t => by
    have h := RT.pe_listRev (X := Y.X t) (p := p) (p2 := p2) (pos := pos) (pos2 := pos2) (Y.hc t) (BL.g.gl t) (by rw [Y.hmg]; exact BL.m) (BR.g.gl t) (by rw [Y.hmg]; exact BR.m) (wE_ok (e := e) t) (hs t) (hs2 t)
    rw [Y.hK t] at h
    exact h, ha U h1 r _ fun v T l1 r1 ⟨q, vs, e1, e2, e3⟩ => ⟨q, vs, e1, e2 T (Le.refl T), fun p hp =>
      z (.ref p) (T.own p _ hp) (l1.trans (Le.own hp)) (m.le0 r1 (Le.own hp)) ⟨p, _, rfl, l1.back hp, T.fnone hp, upd_same, e3.rev⟩⟩⟩
/-- x = [..] with the fresh list known -/
theorem s_setLcF {elt : Expr} {ifs : List Expr} {scope : Scope} {lp : Pos} (n : Nat) (own : List (Str × Nat)) {xs : List α} {enc : α → PD} {tg iter : Expr} (pr : α → Bool) (g : α → PD) (hi : EI m Y σ W i tg iter xs.length (itE Y.K xs enc) j) (hl : xs.length ≤ 100000)
    (ht : ∀ T0, Le m.M W T0 → ∀ a, a ∈ xs → ∀ x T, Fl W T → m.R j T → Is Y.K T.F x (.d (enc a)) → Turn1 m (Y.blk scope) tg elt ifs (own.map (·.2)) σ x T j (pr a) (g a)) (r : m.R i W)
    (k : ∀ q T, Le m.M W T → m.R j T → Is Y.K T.F (.ref q) (.d (.list ((xs.filter pr).map g))) → wSs Y rest D (σ.set n (some (.ref q))) T.H)
    (hn : Y.N[n]? = some s := by rfl) (hx : Y.sc.names.lookup s = some .local := by rfl) (ok : blkB Y.N Y.sc scope own = true := by rfl)
    (hsw : ∀ a, swapsWith (.ListComp elt [⟨tg, iter, ifs, 0⟩] scope lp) (some (.Name s p')) p.line (Y.X a).env = pure true := by intro _; exact sw_true rfl rfl rfl (by decide +kernel))
    (hs : ∀ a, ∀ x, foldedSetIterable iter (Y.X a).env x = pure x := by intro _ _; rfl) :
    wSs Y (.Assign [.Name s p'] (.ListComp elt [⟨tg, iter, ifs, 0⟩] scope lp) p :: rest) D σ W.H :=
  s_setLc xs pr g hi hl (blk_of ok) (fun T0 l0 k a ha x T hf r hd => ht T0 l0 a (List.mem_of_getElem? ha) x T (l0.fl.trans hf) r (hd a ha)) r hn hx
    (fun q T us l1 r1 e1 e2 e3 e4 => by
      have up : ∀ a o, T.F a = some o → upd T.F q (.lst us) a = some o := upd_none e2
      refine k q (T.ice q _ e3) (l1.ice e1 e3 e2) (m.st j T _ r1 (fun _ _ z => z) fun a z => ?_) (Dp.lst (SqL.of upd_same) (e4.mono up))
      have hne : a ≠ q := fun w => (m.al i W r a z).1 (w ▸ e1)
      show upd T.F q _ a = none
      rw [upd_ne hne]
      exact (m.al j T r1 a z).2) hsw hs
end
theorem cutTo (ns : List Int) (k : Nat) : Pv.cutD (ns.map PyData.int) none (some (k : Int)) = (ns.take k).map .int := by
  have e1 : HT.sIx (ns.map PyData.int).length 0 none = 0 := by simp [HT.sIx]
  unfold Pv.cutD
  rw [e1, List.drop_zero, Nat.sub_zero, ← List.map_take]
  congr 1
  have e2 : HT.sIx (ns.map PyData.int).length (ns.map PyData.int).length (some (k : Int)) = min k ns.length := by
    simp [HT.sIx]
    omega
  rw [e2]
  rcases Nat.le_total k ns.length with h | h
  · rw [Nat.min_eq_left h]
  · rw [Nat.min_eq_right h, List.take_length, List.take_of_length_le h]
end Pv
set_option Elab.async false
set_option linter.all false
set_option maxRecDepth 100000
set_option maxHeartbeats 4000000
namespace Pv
open PySem PySem.Spec PyProof.Rows L2
/-! ### the bag -/
def popB : Nat → Bag → Bag
  | 0, b => b
  | n + 1, b => if (decide (0 < b.hi) || b.cells.isEmpty) = true then b else popB n ⟨b.cells.dropLast, (if 1000000000 < b.cells.getLastD 0 then b.cells.getLastD 0 else 0), b.mix⟩
def dr (b : Bag) (below : Int) : Int × Bag :=
  let c := popB 64 b
  if 0 < c.hi then (c.hi % below, ⟨c.cells, c.hi / below, c.mix⟩)
  else ((((c.mix * 48271 + 11) % 2147483647) * ((c.mix * 48271 + 11) % 2147483647)) % 2147483629 / 7 % below, ⟨c.cells, c.hi, (c.mix * 48271 + 11) % 2147483647⟩)
theorem last_mem : ∀ {l : List Int}, l ≠ [] → l.getLastD 0 ∈ l := fun {l} h => by
  rw [List.getLastD_eq_getLast?, List.getLast?_eq_some_getLast h]
  exact List.getLast_mem h
theorem popB_ok : ∀ (n : Nat) {b : Bag}, BagOk b → BagOk (popB n b)
  | 0, b, h => h
  | n + 1, b, h => by
    unfold popB
    split
    · exact h
    · rename_i hc
      have hne : b.cells ≠ [] := fun z => hc (by simp [z])
      have hl := h.cells _ (last_mem hne)
      refine popB_ok n ⟨by simp only [List.length_dropLast]; have := h.len; omega, fun c hm => h.cells c ((List.dropLast_subset _ hm)), ?_, h.mix⟩
      dsimp only
      split
      · exact hl
      · exact ⟨by decide, by decide⟩
theorem dr_ok {b : Bag} {below : Int} (h : BagOk b) (hb : 0 < below) : BagOk (dr b below).2 ∧ 0 ≤ (dr b below).1 ∧ (dr b below).1 < below := by
  have hp := popB_ok 64 h
  unfold dr
  simp only
  split
  · rename_i hc
    refine ⟨⟨hp.len, hp.cells, ⟨Int.ediv_nonneg hp.hi.1 (by omega), ?_⟩, hp.mix⟩, Int.emod_nonneg _ (by omega), Int.emod_lt_of_pos _ hb⟩
    exact Int.lt_of_le_of_lt (Int.ediv_le_self _ hp.hi.1) hp.hi.2
  · refine ⟨⟨hp.len, hp.cells, hp.hi, Int.emod_nonneg _ (by decide), Int.emod_lt_of_pos _ (by decide)⟩, Int.emod_nonneg _ (by omega), Int.emod_lt_of_pos _ hb⟩
section
variable {B C : Addr} {T : List (Addr × Str)} {Y : Fam} {σ : L2.St} {W : Wd} {b : Bag} {s : Str} {p p1 p2 p3 pos ap cp : Pos} {q : Nat}
theorem e_bagI (n : Nat) (hN : Y.N[n]? = some s := by rfl) (hv : visB Y.sc s = true := by rfl) (hs : σ[n]? = some (some (.ref B)) := by rfl) (hd : (s == ("__debug__" : Str)) = false := by decide) (hcd : (s == ("__classdict__" : Str)) = false := by decide) :
    E (lawM B C T) Y σ W b (.Subscript (.Name s p) (.Constant (.int 1) q p2) pos) (.d (.int b.hi)) b := fun U l r Q z =>
  ⟨tOp (rIxL Y.K) _ _, fun t => pe_ix (by have h := ix_list (X := Y.X t); rw [Y.hK t] at h; exact h) (wE_ok t) (wE_ok t) (by intro _ _; rfl), e_vat (m := lawM B C T) (W := W) (i := b) n hN hv hs hd hcd U l r _ fun v T1 l1 r1 e => e_int (m := lawM B C T) (W := W) T1 (l.trans l1) r1 _ fun v2 T2 l2 r2 p2 =>
    ⟨B, _, 1, .int b.hi, e, p2.int, SqL.of r2.hB, rfl, z _ T2 (l1.trans l2) r2 (Dp.int _)⟩⟩
theorem e_bagM (n : Nat) (hN : Y.N[n]? = some s := by rfl) (hv : visB Y.sc s = true := by rfl) (hs : σ[n]? = some (some (.ref B)) := by rfl) (hd : (s == ("__debug__" : Str)) = false := by decide) (hcd : (s == ("__classdict__" : Str)) = false := by decide) :
    E (lawM B C T) Y σ W b (.Subscript (.Name s p) (.Constant (.int 2) q p2) pos) (.d (.int b.mix)) b := fun U l r Q z =>
  ⟨tOp (rIxL Y.K) _ _, fun t => pe_ix (by have h := ix_list (X := Y.X t); rw [Y.hK t] at h; exact h) (wE_ok t) (wE_ok t) (by intro _ _; rfl), e_vat (m := lawM B C T) (W := W) (i := b) n hN hv hs hd hcd U l r _ fun v T1 l1 r1 e => e_int (m := lawM B C T) (W := W) T1 (l.trans l1) r1 _ fun v2 T2 l2 r2 p2 =>
    ⟨B, _, 2, .int b.mix, e, p2.int, SqL.of r2.hB, rfl, z _ T2 (l1.trans l2) r2 (Dp.int _)⟩⟩
theorem eg_bagC (n : Nat) (hN : Y.N[n]? = some s := by rfl) (hv : visB Y.sc s = true := by rfl) (hs : σ[n]? = some (some (.ref B)) := by rfl) (hd : (s == ("__debug__" : Str)) = false := by decide) (hcd : (s == ("__classdict__" : Str)) = false := by decide) :
    EG (lawM B C T) Y σ W b (.Subscript (.Name s p) (.Constant (.int 0) q p2) pos) (fun _ v _ => v = .ref C) b := fun U l r Q z =>
  ⟨tOp (rIxL Y.K) _ _, fun t => pe_ix (by have h := ix_list (X := Y.X t); rw [Y.hK t] at h; exact h) (wE_ok t) (wE_ok t) (by intro _ _; rfl), e_vat (m := lawM B C T) (W := W) (i := b) n hN hv hs hd hcd U l r _ fun v T1 l1 r1 e => e_int (m := lawM B C T) (W := W) T1 (l.trans l1) r1 _ fun v2 T2 l2 r2 p2 =>
    ⟨B, _, 0, .ref C, e, p2.int, SqL.of r2.hB, rfl, z _ T2 (l1.trans l2) r2 rfl⟩⟩
/-- bag[0] == [] -/
theorem c_bagE {a : Expr} {j : Bag} (ha : EG (lawM B C T) Y σ W b a (fun _ v _ => v = .ref C) b) : EC (lawM B C T) Y σ W b (.Compare a [.Eq] [.List [] p3] pos) b.cells.isEmpty b := fun U l r Q z =>
  ⟨tOp (rEqD Y.K) _ _, fun t => cmpR (by have h := op_eqD (X := Y.X t) (Y.units t); rw [Y.hK t] at h; exact h) (wE_ok t) (wE_ok t) (nomark _), ha U l r _ fun v1 T1 l1 r1 e1 => (el_lst (m := lawM B C T) (W := W) ed_nil) T1 (l.trans l1) r1 _ fun v2 T2 l2 r2 ⟨q, us, e2, q1, q2, q3, q4⟩ => by
    subst e1 e2
    cases q4
    refine ⟨.list (b.cells.map .int), .list [], Dp.lst (SqL.of r2.hC) (dpInts _), Dp.lst (SqL.of q3) .nil, shaped_ints _, (shp_list (k := 0) shp_nil).ok, ?_⟩
    rw [eqv_nilL, List.isEmpty_map]
    exact z _ T2 (l1.trans l2) r2 (Dp.bl _)⟩
/-- bag[0].pop() -/
theorem eg_bagPop {a : Expr} (ha : EG (lawM B C T) Y σ W b a (fun _ v _ => v = .ref C) b) (hne : b.cells ≠ []) (hbase : ∀ t, attributeBase a "pop" (Y.X t).env (eval a (Y.X t).env) = eval a (Y.X t).env := by intro _; rfl) (hline : (ap.endLine == cp.line) = true := by rfl) :
    EG (lawM B C T) Y σ W b (.Call (.Attribute a "pop" ap) [] [] cp) (fun _ v _ => v = .int (b.cells.getLastD 0)) ⟨b.cells.dropLast, b.hi, b.mix⟩ := fun U l r Q z =>
  ⟨tBM0 Y.K "list" rPop (wE Y a), fun t => by
    have h := pe_bm0 (X := Y.X t) (apos := ap) (cpos := cp) PySem.F.plainAttrs_list PySem.F.slot_list_pop PySem.F.type_list_pop mt_pop (wE_ok (e := a) t) (hbase t) hline
    rw [Y.hK t] at h
    exact h, ha U l r _ fun v T1 l1 r1 e1 => by
    subst e1
    have hC := r1.hC
    have hlen : 0 < b.cells.length := List.length_pos_iff.mpr hne
    have hlast : (b.cells.map V.int)[(b.cells.map V.int).length - 1]? = some (.int (b.cells.getLastD 0)) := by
      rw [List.length_map, List.getElem?_map, List.getLastD_eq_getLast?, List.getLast?_eq_getElem?, List.getElem?_eq_getElem (by omega)]
      rfl
    refine ⟨.inl ⟨rfl, _, SqL.of hC⟩, C, _, _, rfl, rfl, hC, hlast, ?_⟩
    have hR : BagR B C T ⟨b.cells.dropLast, b.hi, b.mix⟩ (T1.put C (.lst (b.cells.map V.int).dropLast) r1.fC) := by
      refine ⟨r1.fB, r1.fC, ?_, ?_, r1.ne, ⟨by simp only [List.length_dropLast]; have := r1.ok.len; omega, fun c hm => r1.ok.cells c ((List.dropLast_subset _ hm)), r1.ok.hi, r1.ok.mix⟩, tabs_put r1.tab hC rfl, r1.ft⟩
      · show upd T1.H C _ B = _
        rw [upd_ne r1.ne]
        exact r1.hB
      · show upd T1.H C _ C = _
        rw [upd_same, List.map_dropLast]
    exact z _ (T1.put C _ r1.fC) (l1.trans (Le.put r1.fC (.inr (.inl rfl)))) hR rfl⟩
/-- bag[1] = n, bag[2] = n -/
theorem g_bag {v : Int} {Q : L2.St → Hp → Prop} {Z : Wd} {k : Int} (n : Nat) (b' : Bag) (r : BagR B C T b Z) (l : Le (lawM B C T).M W Z) (hk : (k = 1 ∧ b' = ⟨b.cells, v, b.mix⟩) ∨ (k = 2 ∧ b' = ⟨b.cells, b.hi, v⟩)) (hok : BagOk b')
    (h : ∀ Z', Le (lawM B C T).M Z Z' → BagR B C T b' Z' → Q σ Z'.H) (hN : Y.N[n]? = some s := by rfl) (hv : visB Y.sc s = true := by rfl) (hs : σ[n]? = some (some (.ref B)) := by rfl) (hd : (s == ("__debug__" : Str)) = false := by decide) (hcd : (s == ("__classdict__" : Str)) = false := by decide)
    (ha : ∀ t, ∀ w, assign (.Subscript (.Name s p) (.Constant (.int k) q p2) pos) (Y.X t).env w = (do
      let ov ← holding [w] (eval (.Name s p) (Y.X t).env)
      let iv ← holding [w, ov] (eval (.Constant (.int k) q p2) (Y.X t).env)
      standAt pos
      holding [w, ov, iv] (setItem ov iv w)
      release [w, ov, iv] []) := by intro _ _; rfl) : wG Y (.Subscript (.Name s p) (.Constant (.int k) q p2) pos) (.int v) σ Z.H Q :=
  ⟨gSub (wE Y (.Name s p)) (wE Y (.Constant (.int k) q p2)) rSetL, fun t => pg_sub (wE_ok t) (wE_ok t) set_list (ha t), e_vat (m := lawM B C T) (W := W) (i := b) n hN hv hs hd hcd Z l r _ fun v1 T1 l1 r1 e => e_int (m := lawM B C T) (W := W) T1 (l.trans l1) r1 _ fun v2 T2 l2 r2 p2 => by
    have e2 := p2.int
    subst e e2
    have fin : ∀ j : Nat, ixN 3 k = some j → ([.ref C, .int b.hi, .int b.mix] : List V).set j (.int v) = [.ref C, .int b'.hi, .int b'.mix] → b'.cells = b.cells → ∃ p xs k' j', V.ref B = .ref p ∧ V.int k = .int k' ∧ T2.H p = some (.lst xs) ∧ ixN xs.length k' = some j' ∧ Q σ (upd T2.H p (.lst (xs.set j' (.int v)))) := fun j hj hset hcell => by
      refine ⟨B, _, k, j, rfl, rfl, r2.hB, hj, ?_⟩
      rw [hset]
      refine h (T2.put B _ r2.fB) ((l1.trans l2).trans (Le.put r2.fB (.inl rfl))) ⟨r2.fB, r2.fC, upd_same, ?_, r2.ne, hok, tabs_put r2.tab r2.hB rfl, r2.ft⟩
      show upd T2.H B _ C = _
      rw [upd_ne (Ne.symm r2.ne), hcell]
      exact r2.hC
    rcases hk with ⟨rfl, rfl⟩ | ⟨rfl, rfl⟩
    · exact fin 1 rfl rfl rfl
    · exact fin 2 rfl rfl rfl⟩
end
section
variable {m : Mode} {Y : Fam} {σ : L2.St} {W : Wd} {i j k : m.ι} {e a b : Expr} {rest : List Stmt} {pos p : Pos} {D : Ends} {P : Wd → V → Wd → Prop} {u v : Int}
theorem e_fdivW (ha : E m Y σ W i a (.d (.int u)) j) (hb : E m Y σ W j b (.d (.int v)) k) (hc : CDivW u v) : E m Y σ W i (.BinOp a .FloorDiv b pos) (.d (.int (u / v))) k := e_int2 (fun _ => op_fdivW) ha hb hc
theorem s_retG (he : EG m Y σ W i e P j) (r : m.R i W) (k : ∀ v T, Le m.M W T → m.R j T → P W v T → D.rt v T.H) : wSs Y (.Return (some e) p :: rest) D σ W.H :=
  ⟨_, fun a => pss_cons (ps_ret (wE_ok a)) (wSs_ok (ss := rest) a), he W (Le.refl W) r _ k⟩
end
end Pv
namespace Pv
open PySem PySem.Spec PyProof.Rows L2
/-- a list of values told by words -/
theorem eg_lst {m : Mode} {Y : Fam} {σ : L2.St} {W : Wd} {i j : m.ι} {es : List Expr} {pos : Pos} {P : Wd → List V → Wd → Prop} (h : EAG m Y σ W i es P j) (hl : es.length ≤ 100000 := by exact Nat.le_of_ble_eq_true rfl) (hlen : ∀ U vs T, P U vs T → vs.length = es.length) :
    EG m Y σ W i (.List es pos) (fun U v T' => ∃ p vs T, v = .ref p ∧ Le m.M U T ∧ P U vs T ∧ T.H p = none ∧ T'.F = T.F ∧ T'.H = upd T.H p (.lst vs)) j := fun U h1 r Q k =>
  ⟨_, fun a => pe_lst (wA_ok a), h U h1 r _ fun vs T l1 r1 p1 => by
    refine ⟨small5 (by rw [hlen U vs T p1]; exact hl), fun p hp => ?_⟩
    exact k (.ref p) (T.own p _ hp) (l1.trans (Le.own hp)) (m.le0 r1 (Le.own hp)) ⟨p, vs, T, rfl, l1, p1, hp, rfl, rfl⟩⟩
/-- a draw -/
def drawSp : Spg := fun vs H Q => ∃ (W : Wd) (B C : Addr) (b : Bag) (below : Int), W.H = H ∧ vs = [.ref B, .int below] ∧ BagR B C [] b W ∧ 0 < below ∧ below.natAbs.log2 < 9000 ∧
  ∀ T, Le (lawM B C []).M W T → BagR B C [] (dr b below).2 T → Q (.int (dr b below).1) T.H
/-- the draw's caller -/
theorem bagR_less {B C : Addr} {T : List (Addr × Str)} {b : Bag} {W : Wd} (r : BagR B C T b W) : BagR B C [] b W := ⟨r.fB, r.fC, r.hB, r.hC, r.ne, r.ok, (fun p hp => by cases hp), (fun p hp => by cases hp)⟩
theorem bagR_more {B C : Addr} {T : List (Addr × Str)} {b b' : Bag} {W V : Wd} (r : BagR B C T b W) (l : Le (lawM B C []).M W V) (r' : BagR B C [] b' V) : BagR B C T b' V := by
  have nM : ∀ a o, W.H a = some o → isOwn o = false → ¬ (lawM B C []).M a := fun a o e ho z => by
    rcases z with rfl | rfl | ⟨p, hp, _⟩
    · rw [r.hB] at e
      cases e
      cases ho
    · rw [r.hC] at e
      cases e
      cases ho
    · cases hp
  refine ⟨r'.fB, r'.fC, r'.hB, r'.hC, r'.ne, r'.ok, fun p hp => ?_, fun p hp => ?_⟩
  · obtain ⟨ps, a1, a2, a3⟩ := r.tab p hp
    refine ⟨ps, l.h _ _ (nM _ _ a1 rfl) a1, a2, fun pos cv hc => ?_⟩
    obtain ⟨d, e1, e2⟩ := a3 pos cv hc
    exact ⟨d, e1, l.h _ _ (nM _ _ e2 rfl) e2⟩
  · obtain ⟨ps, a1, _⟩ := r.tab p hp
    exact l.n _ (r.ft p hp) (by rw [a1]; exact fun z => nomatch z)
theorem le_more {B C : Addr} {T : List (Addr × Str)} {W V : Wd} (l : Le (lawM B C []).M W V) : Le (lawM B C T).M W V := l.mono fun a z => by
  rcases z with z | z | ⟨p, hp, _⟩
  · exact .inl z
  · exact .inr (.inl z)
  · cases hp
section
variable {B C : Addr} {T : List (Addr × Str)} {Y : Fam} {σ : L2.St} {W : Wd} {i j : Bag} {s sb : Str} {p pb pos : Pos} {e : Expr}
theorem e_draw {q : Nat} {st : Stmt} {ps : List Str} {below : Int} (n : Nat) (C0 : Cl Y.P Y.w Y.K Y.mg Y.base q s st ps drawSp) (hb : E (lawM B C T) Y σ W i e (.d (.int below)) j) (h0 : 0 < below) (h1 : below.natAbs.log2 < 9000)
    (hN : Y.N[n]? = some sb := by rfl) (hv : visB Y.sc sb = true := by rfl) (hs : σ[n]? = some (some (.ref B)) := by rfl) (hq : q ≤ Y.k := by exact Nat.le_of_ble_eq_true rfl) (hg : Gb Y s := by rfl) (hd : (sb == ("__debug__" : Str)) = false := by decide) (hcd : (sb == ("__classdict__" : Str)) = false := by decide) (hdb : (s == ("__debug__" : Str)) = false := by decide)
    (he : ∀ a, starEach [.Name sb pb, e] (Y.X a).env = (false, eval (.Name sb pb) (Y.X a).env) :: starEach [e] (Y.X a).env := by intro _; rfl) (he2 : ∀ a, starEach [e] (Y.X a).env = (false, eval e (Y.X a).env) :: starEach [] (Y.X a).env := by intro _; rfl) (hpl : ∀ a, (backTo pos (starEach [e] (Y.X a).env)).any (·.1) = false := by intro _; rfl) :
    E (lawM B C T) Y σ W i (.Call (.Name s p) [.Name sb pb, e] [] pos) (.d (.int (dr j below).1)) (dr j below).2 := by
  obtain ⟨f, fd, m1, m2, m3⟩ := C0.ex
  have ha : EAG (lawM B C T) Y σ W i [.Name sb pb, e] _ j := eg_cons (e_vat n hN hv hs hd hcd) (eg_cons hb eg_nil he2) he
  exact fun U l r Q z => ⟨fun σ H Q => wA Y [.Name sb pb, e] σ H fun vs H1 => drawSp vs H1 Q, fun a => pe_callG (by rw [Y.hP, Y.hw, Y.hK, Y.hmg, Y.hbase]; exact m3) ((Y.hr a).mono hq) (hg.gl a) (by rw [Y.hmg]; exact m1) (by rw [Y.hK]; exact m2.kp) (by rw [Y.hK]; exact m2.bindsN C0.b) (wA_ok a) hdb (he a) (hpl a),
    ha U l r _ fun vs T0 l0 r0 ⟨_, _, Ta, e1, la, e2, lb, _, _, Tb, e3, lc, e4, ld, e5⟩ => by
      subst e1 e2 e3 e5
      have e6 := Is.int e4
      subst e6
      exact ⟨T0, B, C, j, below, rfl, rfl, bagR_less r0, h0, h1, fun T' l' r' => z _ T' (l0.trans (le_more l')) (bagR_more r0 l' r') (Dp.int _)⟩⟩
/-- a pick -/
def pickI (ns : List Int) (b : Bag) : Int := ns.getD (dr b ns.length).1.toNat 0
theorem pickI_mem {ns : List Int} {b : Bag} (h : BagOk b) (hn : ns ≠ []) : ns[(dr b ns.length).1.toNat]? = some (pickI ns b) ∧ atI ns (dr b ns.length).1 = some (pickI ns b) := by
  have hl : 0 < ns.length := List.length_pos_iff.mpr hn
  obtain ⟨_, h1, h2⟩ := dr_ok h (show (0 : Int) < ns.length by omega)
  have h3 : (dr b ns.length).1.toNat < ns.length := by omega
  have e : ns[(dr b ns.length).1.toNat]? = some (pickI ns b) := by
    unfold pickI
    rw [List.getD_eq_getElem?_getD, List.getElem?_eq_getElem h3]
    rfl
  refine ⟨e, ?_⟩
  have := atI_nat e
  rwa [Int.toNat_of_nonneg h1] at this
end
def pickSp (K : PySem.W.Frag) : Spg := fun vs H Q => ∃ (W : Wd) (B C : Addr) (b : Bag) (v : V) (ns : List Int), W.H = H ∧ vs = [.ref B, v] ∧ BagR B C [] b W ∧ Is K W.F v (.d (.list (ns.map .int))) ∧ ns ≠ [] ∧ ns.length ≤ 1000 ∧
  ∀ T, Le (lawM B C []).M W T → BagR B C [] (dr b ns.length).2 T → Q (.int (pickI ns b)) T.H
section
variable {B C : Addr} {T : List (Addr × Str)} {Y : Fam} {σ : L2.St} {W : Wd} {i j : Bag} {s sb : Str} {p pb pos : Pos} {e : Expr}
theorem e_pick {q : Nat} {st : Stmt} {ps : List Str} {ns : List Int} (n : Nat) (C0 : Cl Y.P Y.w Y.K Y.mg Y.base q s st ps (pickSp Y.K)) (hb : E (lawM B C T) Y σ W i e (.d (.list (ns.map .int))) j) (h0 : ns ≠ []) (h1 : ns.length ≤ 1000)
    (hN : Y.N[n]? = some sb := by rfl) (hv : visB Y.sc sb = true := by rfl) (hs : σ[n]? = some (some (.ref B)) := by rfl) (hq : q ≤ Y.k := by exact Nat.le_of_ble_eq_true rfl) (hg : Gb Y s := by rfl) (hd : (sb == ("__debug__" : Str)) = false := by decide) (hcd : (sb == ("__classdict__" : Str)) = false := by decide) (hdb : (s == ("__debug__" : Str)) = false := by decide)
    (he : ∀ a, starEach [.Name sb pb, e] (Y.X a).env = (false, eval (.Name sb pb) (Y.X a).env) :: starEach [e] (Y.X a).env := by intro _; rfl) (he2 : ∀ a, starEach [e] (Y.X a).env = (false, eval e (Y.X a).env) :: starEach [] (Y.X a).env := by intro _; rfl) (hpl : ∀ a, (backTo pos (starEach [e] (Y.X a).env)).any (·.1) = false := by intro _; rfl) :
    E (lawM B C T) Y σ W i (.Call (.Name s p) [.Name sb pb, e] [] pos) (.d (.int (pickI ns j))) (dr j ns.length).2 := by
  obtain ⟨f, fd, m1, m2, m3⟩ := C0.ex
  have ha : EAG (lawM B C T) Y σ W i [.Name sb pb, e] _ j := eg_cons (e_vat n hN hv hs hd hcd) (eg_cons hb eg_nil he2) he
  exact fun U l r Q z => ⟨fun σ H Q => wA Y [.Name sb pb, e] σ H fun vs H1 => pickSp Y.K vs H1 Q, fun a => pe_callG (by rw [Y.hP, Y.hw, Y.hK, Y.hmg, Y.hbase]; exact m3) ((Y.hr a).mono hq) (hg.gl a) (by rw [Y.hmg]; exact m1) (by rw [Y.hK]; exact m2.kp) (by rw [Y.hK]; exact m2.bindsN C0.b) (wA_ok a) hdb (he a) (hpl a),
    ha U l r _ fun vs T0 l0 r0 ⟨_, _, Ta, e1, la, e2, lb, v2, _, Tb, e3, lc, e4, ld, e5⟩ => by
      subst e1 e2 e3 e5
      exact ⟨T0, B, C, j, v2, ns, rfl, rfl, bagR_less r0, e4.le ld, h0, h1, fun T' l' r' => z _ T' (l0.trans (le_more l')) (bagR_more r0 l' r') (Dp.int _)⟩⟩
end
end Pv
set_option Elab.async false
set_option linter.all false
set_option maxRecDepth 100000
set_option maxHeartbeats 4000000
namespace Pv
open PySem PySem.Spec PyProof.Rows L2
/-- a def, its body told with its code object -/
theorem fnG_ofC {P : Program} {w : World} {K : PySem.W.Frag} {mg : Str → Option Value} {base : Heap} {x : Str} {st : Stmt} {f : Addr} {fd : FuncData} {N ps : List Str} {k : Nat} {sp : Spg} (F : FnD K x st f fd) (S : FnScope N ps (defScope st))
    (len : ∀ vs H Q, sp vs H Q → vs.length = ps.length)
    (hbody : ∀ (cdv : Value) (_ : fd.code = cdv) (A : Around) (outer : List Env) (s : Shared) (H : Hp) (hr : RoomG k (A.deeper (envOfC x (defScope st) s.heap.objs.size f cdv))) (vs : List V) (Q : VK), sp vs H Q →
      wSs (dFam P w K mg base N S.nd x (defScope st) f cdv A outer s H k hr) (defBody st) { nx := fun _ H' => Q .non H', rt := Q } (L2.start N vs) H) : FnG P w K mg base (k + 1) f fd ps sp := by
  obtain ⟨oc, od, dV, kV, doc, pm, an, cdv, ct, osl, rfl, lk, hcd, _, _⟩ := F.ex
  refine ⟨len, fun A outer s H args us vs Q hr e0 hb r h => ?_⟩
  refine LamX.run_ofS lk hcd S hr.r e0 hb r (len vs H Q h) fun hr' => ?_
  have hg : RoomG k (A.deeper (envOfC x (defScope st) s.heap.objs.size f cdv)) := ⟨hr', hr.g⟩
  exact ⟨_, (wSs_ok (Y := dFam P w K mg base N S.nd x (defScope st) f cdv A outer s H k hg) ()).nox, hbody cdv rfl A outer s H hg vs Q h⟩
/-- a def with lambdas: its table -/
structure Lm (K : PySem.W.Frag) (mg : Str → Option Value) (base : Heap) (T : List (Addr × Str)) (s : Str) (st : Stmt) (q : Str) : Prop where
  ex : ∃ f fd P c, mg s = some (.ref f) ∧ FnD K s st f fd ∧ fd.code = .ref c ∧ LamX.TabB base mg c P ∧ (P, q) ∈ T ∧ ∀ p ∈ T, p.1 = P → p.2 = q
theorem lamY_d {P : Program} {w : World} {K : PySem.W.Frag} {mg : Str → Option Value} {base : Heap} {N : List Str} {nd : N.Nodup} {x q : Str} {sc : Scope} {f : Addr} {cdv : Value} {A : Around} {outer : List Env} {s : Shared} {H : Hp} {k : Nat} {hr : RoomG k (A.deeper (envOfC x sc s.heap.objs.size f cdv))}
    {T : List (Addr × Str)} {Pt c : Addr} (hc : cdv = .ref c) (TB : LamX.TabB base mg c Pt) (hm : (Pt, q) ∈ T) (hu : ∀ p ∈ T, p.1 = Pt → p.2 = q) (hq : (envOfC x sc s.heap.objs.size f cdv).qual ++ "<lambda>" = q := by rfl) : LamY (dFam P w K mg base N nd x sc f cdv A outer s H k hr) T q Pt :=
  ⟨⟨c, TB, fun _ => hc⟩, fun _ => hq, hm, hu, fun _ _ => rfl, fun _ _ => rfl⟩
theorem Cl.ofL {P : Program} {w : World} {K : PySem.W.Frag} {mg : Str → Option Value} {base : Heap} {T : List (Addr × Str)} {k : Nat} {s q : Str} {st : Stmt} {ps : List Str} {sp : Spg} (L : Lm K mg base T s st q) (b : BindOk s st ps)
    (h : ∀ f fd Pt c, FnD K s st f fd → fd.code = .ref c → LamX.TabB base mg c Pt → (Pt, q) ∈ T → (∀ p ∈ T, p.1 = Pt → p.2 = q) → FnG P w K mg base k f fd ps sp) : Cl P w K mg base k s st ps sp := by
  obtain ⟨f, fd, Pt, c, h1, h2, h3, h4, h5, h6⟩ := L.ex
  exact ⟨b, f, fd, h1, h2, h f fd Pt c h2 h3 h4 h5 h6⟩
end Pv
namespace Pv
open PySem PySem.Spec PyProof.Rows L2
theorem e_minR {m : Mode} {Y : Fam} {σ : L2.St} {W : Wd} {i j : m.ι} {e : Expr} {p pos : Pos} {ns : List Int} {g : Int} (B : BI Y "min" (.builtin "min")) (ha : ERl m Y σ W i e (ns.map .int) j) (hg : g ∈ ns) (hl : ∀ y ∈ ns, g ≤ y) (he : ∀ a, starEach [e] (Y.X a).env = (false, eval e (Y.X a).env) :: starEach [] (Y.X a).env := by intro _; rfl) (hpl : ∀ a, (backTo pos (starEach [] (Y.X a).env)).any (·.1) = false := by intro _; rfl) :
    E m Y σ W i (.Call (.Name "min" p) [e] [] pos) (.d (.int g)) j := fun U h1 r Q z =>
  ⟨tCB (rMin Y.K) (tCons (wE Y e) tNil), fun t => pe_callB (cMin t) (B.g.gl t) (by rw [Y.hmg]; exact B.m) B.v (pa_cons (wE_ok t) pa_nil (he t)) (by decide) (by decide) (he t) (hpl t), ha U h1 r _ fun v T l1 r1 ⟨q, us, e1, e2, e3⟩ => by
    subst e1
    have e4 := e3.ints
    subst e4
    refine ⟨q, ns, rfl, e2 T (Le.refl T), List.length_pos_of_mem hg, fun m' hm hle => ?_⟩
    have e5 : m' = g := by
      have a1 := hl m' hm
      have a2 := hle g hg
      omega
    subst e5
    exact z _ T l1 r1 (Dp.int _)⟩
end Pv
namespace Pv
open PySem PySem.Spec PyProof.Rows L2
theorem EW.is {m : Mode} {Y : Fam} {σ : L2.St} {W : Wd} {i j : m.ι} {e : Expr} {u v : Bool} (h : EW m Y σ W i e u j) (q : u = v) : EW m Y σ W i e v j := q ▸ h
end Pv
set_option Elab.async false
set_option linter.all false
set_option maxRecDepth 100000
set_option maxHeartbeats 4000000
namespace Pv
open PySem PySem.Spec PyProof.Rows L2
/-- a mode, its index forgotten -/
def mx (m : Mode) : Mode where
  ι := Unit
  M := m.M
  R := fun _ W => ∃ i, m.R i W
  st := fun _ W V ⟨i, r⟩ h hf => ⟨i, m.st i W V r h hf⟩
  al := fun _ W ⟨i, r⟩ a ha => m.al i W r a ha
  pt := fun _ W l o u h ⟨i, r⟩ hm hl ho => ⟨i, m.pt i W l o u h r hm hl ho⟩
section
variable {m : Mode} {Y : Fam} {σ : L2.St} {W : Wd} {s : Str} {p pos : Pos} {e : Expr} {es : List Expr}
/-- a call of a def of the law: it gives True, the resource is some other one -/
theorem e_lawcall {q : Nat} {st : Stmt} {ps : List Str} {sp : Spg} {P : m.ι → Wd → List V → Wd → Prop} {j : m.ι → m.ι} (C : Cl Y.P Y.w Y.K Y.mg Y.base q s st ps sp) (ha : ∀ i, EAG m Y σ W i (e :: es) (P i) (j i))
    (hsp : ∀ i U vs T, Le m.M W U → m.R i U → Le m.M U T → m.R (j i) T → P i U vs T → ∀ Q : VK, (∀ b' V, Le m.M T V → m.R b' V → Q (.bl true) V.H) → sp vs T.H Q) (hq : q ≤ Y.k := by exact Nat.le_of_ble_eq_true rfl) (hg : Gb Y s := by rfl) (hdb : (s == ("__debug__" : Str)) = false := by decide)
    (he : ∀ a, starEach (e :: es) (Y.X a).env = (false, eval e (Y.X a).env) :: starEach es (Y.X a).env := by intro _; rfl) (hpl : ∀ a, (backTo pos (starEach es (Y.X a).env)).any (·.1) = false := by intro _; rfl) :
    E (mx m) Y σ W () (.Call (.Name s p) (e :: es) [] pos) (.d (.bool true)) () := by
  obtain ⟨f, fd, h1, h2, h3⟩ := C.ex
  rintro U l ⟨i, r⟩ Q z
  exact ⟨fun σ H Q => wA Y (e :: es) σ H fun vs H1 => sp vs H1 Q, fun a => pe_callG (by rw [Y.hP, Y.hw, Y.hK, Y.hmg, Y.hbase]; exact h3) ((Y.hr a).mono hq) (hg.gl a) (by rw [Y.hmg]; exact h1) (by rw [Y.hK]; exact h2.kp) (by rw [Y.hK]; exact h2.bindsN C.b) (wA_ok a) hdb (he a) (hpl a),
    ha i U l r _ fun vs T l1 r1 p1 => hsp i U vs T l r l1 r1 p1 Q fun b' V l2 r2 => z _ V (l1.trans l2) ⟨b', r2⟩ (Dp.bl _)⟩
end
end Pv
set_option Elab.async false
set_option linter.all false
set_option maxRecDepth 100000
set_option maxHeartbeats 4000000
namespace Pv
open PySem PySem.Spec PyProof.Rows L2
/-! ### the law's end: from the head's heap into the world -/
def odd : Data → Bool
  | .seq _ _ => true
  | .fields v => v.isEmpty
  | _ => false
/-- what is tracked at the start: tables, and the script's list if it is not known -/
structure Tr (K : PySem.W.Frag) (h : Heap) (H : Hp) (ts : List Addr) : Prop where
  all : ∀ b u, H b = some u → K.lookup b = none ∧ ((b ∈ ts ∧ u = .tbl #[] ∧ h.get? b = some { cls := .none, data := .fields #[] }) ∨ ∃ o x its n, u = .frz o x ∧ h.get? b = some o ∧ o.data = .seq its n)
  tab : ∀ b ∈ ts, H b = some (.tbl #[])
section
variable {K : PySem.W.Frag} {h : Heap} {H : Hp} {ts : List Addr} {mg : Str → Option Value}
theorem Tr.un (T : Tr K h H ts) {b : Addr} {o : Obj} (e : h.get? b = some o) (d : odd o.data = false) : H b = none := by
  cases q : H b with
  | none => rfl
  | some u =>
    rcases (T.all b u q).2 with ⟨_, _, z⟩ | ⟨o', _, its, n, _, z, z2⟩
    · rw [e] at z
      rw [Option.some.inj z] at d
      cases d
    · rw [e] at z
      rw [Option.some.inj z, z2] at d
      cases d
theorem Tr.see (T : Tr K h H ts) {b : Addr} {o : Obj} (e : h.get? b = some o) (d : odd o.data = false) : (hidT h H).get? b = some o := hidT_get e (T.un e d)
theorem Tr.kin (T : Tr K h H ts) (k : K.In h) : K.In (hidT h H) := fun b o e => hidT_get (k b o e) (by
  cases q : H b with
  | none => rfl
  | some u =>
    have z := (T.all b u q).1
    rw [e] at z
    cases z)
theorem Tr.ns (T : Tr K h H ts) {b : Addr} {m : Str → Option Value} (n : h.Ns b m) : (hidT h H).Ns b m := by
  obtain ⟨o, es, ep, e, d, r⟩ := n
  exact ⟨o, es, ep, T.see e (by rw [d]; rfl), d, r⟩
theorem Tr.mod (T : Tr K h H ts) (k : K.In h) (g : h.Ns mainGlobals mg) {mb : Str → Option Value} (b : h.Ns builtinsNs mb) (bb : ∀ x : Str, x ≠ "__name__" → mb x = bootBuiltins x) (l : h.NoLimit) : L2.Mod K mg (hidT h H) := by
  obtain ⟨mc, l1, l2⟩ := l
  exact ⟨T.kin k, T.ns g, ⟨mb, T.ns b, bb⟩, mc, T.ns l1, l2⟩
theorem Tr.tabB (T : Tr K h H ts) (g : h.Ns mainGlobals mg) (hbm : ∃ (bm : Addr) (ob : Obj), mg "__builtins__" = some (.ref bm) ∧ bm ≠ builtinsNs ∧ h.get? bm = some ob ∧ ob.cls = .type "module" ∧ ob.dict = some builtinsNs ∧ ob.data = .plain)
    {c p : Addr} (e : h.get? p = some { cls := .none, data := .fields #[] }) (C : PySem.W.CodeHd h c p) : LamX.TabB (hidT h H) mg c p := by
  obtain ⟨bm, ob, b1, b2, b3, b4, b5, b6⟩ := hbm
  obtain ⟨og, eg, ng, g1, g2, _⟩ := g
  have ap : ∀ {q : Addr} {o : Obj}, h.get? q = some o → o.data ≠ .fields #[] → q ≠ p := fun {q o} k d z => by
    rw [z, e] at k
    rw [← Option.some.inj k] at d
    exact d rfl
  refine ⟨?_, ⟨bm, ob, b1, b2, fun z => ?_, ap b3 (by rw [b6]; exact fun z => nomatch z), T.see b3 (by rw [b6]; rfl), b4, b5, b6⟩, ap g1 (by rw [g2]; exact fun z => nomatch z)⟩
  · obtain ⟨o, us, file, tf, flags, tg, inF, text, tt, e1, r1, r2, r3, r4⟩ := C
    refine ⟨o, us, file, tf, flags, tg, inF, text, tt, T.see e1 ?_, r1, r2, r3, r4⟩
    rw [r2]
    show us.isEmpty = false
    cases q : us.isEmpty with
    | false => rfl
    | true =>
      rw [Array.isEmpty_iff.mp q] at r3
      simp at r3
  · rw [z, g1] at b3
    rw [← Option.some.inj b3, g2] at b6
    cases b6
theorem Tr.old {P : Program} {w : World} {H' : Hp} {h' : Heap} {cs : List (Addr × Addr)} (T : Tr K h H (cs.map Prod.snd)) (hT : ∀ p ∈ cs, h.get? p.2 = some { cls := .none, data := .fields #[] }) (C : ∀ p ∈ cs, PySem.W.CodeHd h p.1 p.2)
    (u : Un (frs []) [] H H' h h') (ok : HOk P w H' h') : OldK h h' := by
  have key : ∀ b o, h.get? b = some o → b ∉ cs.map Prod.snd → h'.get? b = some o := fun b o e nb => by
    cases q : H b with
    | none => exact u.keep b o e q (fun z => nomatch (show b ∈ ([] : List Addr) from z)) (fun z => nomatch z)
    | some v =>
      rcases (T.all b v q).2 with ⟨z, _⟩ | ⟨o', x, _, _, z, z2, _⟩
      · exact (nb z).elim
      · rw [z] at q
        rw [e] at z2
        rw [Option.some.inj z2]
        exact (ok b _ (u.frzs b o' x q)).1
  have grow : ∀ b, b ∈ cs.map Prod.snd → ∃ more : Array Value, h'.get? b = some { cls := .none, data := .fields more } := fun b hb => by
    obtain ⟨more, z⟩ := u.tbls b #[] (T.tab b hb)
    exact ⟨_, ok b _ z⟩
  refine ⟨fun b o e => ?_, fun b o e => ?_⟩
  · by_cases hb : b ∈ cs.map Prod.snd
    · obtain ⟨more, z⟩ := grow b hb
      obtain ⟨p, hp, rfl⟩ := List.mem_map.mp hb
      have e2 := hT p hp
      rw [e] at e2
      rw [Option.some.inj e2]
      exact .inr (.inl ⟨((C p hp).tab (hT p hp)).isCodeTable, rfl, #[], more, rfl, by rw [Array.empty_append]; exact z⟩)
    · exact .inl (key b o e hb)
  · by_cases hb : b ∈ cs.map Prod.snd
    · obtain ⟨more, z⟩ := grow b hb
      exact ⟨_, z⟩
    · exact ⟨o, key b o e hb⟩
end
abbrev obS (vs : List Value) : Obj := { cls := .type "list", data := .seq vs.toArray }
def hp0 (K : PySem.W.Frag) (a : Addr) (ob : Obj) (u : HO) (ts : List Addr) : Hp := fun b => if b ∈ ts then some (.tbl #[]) else if b = a ∧ K.lookup a = none then some (.frz ob u) else none
theorem hp0_tr {K : PySem.W.Frag} {h : Heap} {a : Addr} {ob : Obj} {u : HO} {ts : List Addr} {its : Array Value} {n : Nat} (ha : h.get? a = some ob) (hd : ob.data = .seq its n) (hT : ∀ b ∈ ts, h.get? b = some { cls := .none, data := .fields #[] } ∧ K.lookup b = none) :
    Tr K h (hp0 K a ob u ts) ts := by
  refine ⟨fun b v e => ?_, fun b hb => if_pos hb⟩
  unfold hp0 at e
  by_cases hb : b ∈ ts
  · rw [if_pos hb] at e
    exact ⟨(hT b hb).2, .inl ⟨hb, (Option.some.inj e).symm, (hT b hb).1⟩⟩
  · rw [if_neg hb] at e
    by_cases hc : b = a ∧ K.lookup a = none
    · rw [if_pos hc] at e
      rw [hc.1]
      exact ⟨hc.2, .inr ⟨ob, u, its, n, (Option.some.inj e).symm, ha, hd⟩⟩
    · rw [if_neg hc] at e
      cases e
/-- the world at the start: the script is told, the tables are the def's own -/
def wd0 (K : PySem.W.Frag) (a : Addr) (ob : Obj) (u : HO) (ts : List Addr) : Wd where
  H := hp0 K a ob u ts
  F := fun b => if b ∈ ts then none else hp0 K a ob u ts b
  sub := fun b o e => by
    by_cases hb : b ∈ ts
    · rw [if_pos hb] at e
      cases e
    · rw [if_neg hb] at e
      exact e
theorem dp_ints (K : PySem.W.Frag) (F : Hp) : ∀ ns : List Int, DpAll K F (ns.map V.int) (ns.map PyData.int)
  | [] => .nil
  | n :: r => .cons (Dp.int n) (dp_ints K F r)
/-- the law's call, from the promise of its def -/
theorem call_end {P : Program} {w : World} {K : PySem.W.Frag} {mg mb : Str → Option Value} {k : Nat} {fa a : Addr} {cs : List (Addr × Addr)} {fd : FuncData} {x : Str} {sp : Spg} {s₁ : Shared} {vs : List Value} {ns : List Int}
    (KX : K.In s₁.heap) (hns : s₁.heap.Ns mainGlobals mg) (hb : s₁.heap.Ns builtinsNs mb) (hbb : ∀ x : Str, x ≠ "__name__" → mb x = bootBuiltins x) (hlim : s₁.heap.NoLimit) (hg : s₁.gens = #[])
    (hT : ∀ p ∈ cs, s₁.heap.get? p.2 = some { cls := .none, data := .fields #[] }) (nT : ∀ p ∈ cs, K.lookup p.2 = none) (C : ∀ p ∈ cs, PySem.W.CodeHd s₁.heap p.1 p.2)
    (hbm : ∃ (bm : Addr) (ob : Obj), mg "__builtins__" = some (.ref bm) ∧ bm ≠ builtinsNs ∧ s₁.heap.get? bm = some ob ∧ ob.cls = .type "module" ∧ ob.dict = some builtinsNs ∧ ob.data = .plain)
    (ha : s₁.heap.get? a = some { cls := .type "list", data := .seq vs.toArray }) (hi : IntsAre vs ns) (hl : ns.length ≤ sizeLine) (hr : RoomG k callerA)
    (F : ∀ base : Heap, K.In base → base.Ns mainGlobals mg → (∀ p ∈ cs, LamX.TabB base mg p.1 p.2) → FnG P w K mg base k fa fd [x] sp) (hbind : ∀ (s : Shared) (u : Value), BindsTo s fd ⟨[u], []⟩ [(x, u)])
    (hsp : ∀ W : Wd, (∀ p ∈ cs, W.H p.2 = some (.tbl #[]) ∧ W.F p.2 = none) → Is K W.F (.ref a) (.d (.list (ns.map .int))) → sp [.ref a] W.H (fun v _ => v = .bl true)) :
    codeAny (model P w) callerA (.call (.ref fa) ⟨[.ref a], []⟩) (fun r s' => r = .ok (.ret (.bool true)) ∧ OldK s₁.heap s'.heap ∧ s'.os = s₁.os ∧ AllBare s'.gens) s₁ := by
  have hv := vals_ints hi
  have hT2 : ∀ b ∈ cs.map Prod.snd, s₁.heap.get? b = some { cls := .none, data := .fields #[] } ∧ K.lookup b = none := fun b hb => by
    obtain ⟨p, hp, rfl⟩ := List.mem_map.mp hb
    exact ⟨hT p hp, nT p hp⟩
  have T := hp0_tr (ob := obS vs) (u := .lst (ns.map V.int)) (ts := cs.map Prod.snd) ha rfl hT2
  have at_ : ∀ p ∈ cs, p.2 ∈ cs.map Prod.snd := fun p hp => List.mem_map.mpr ⟨p, hp, rfl⟩
  have aT : a ∉ cs.map Prod.snd := fun z => by
    have q := (hT2 a z).1
    rw [ha] at q
    cases q
  have ok : HOk P w (wd0 K a (obS vs) (.lst (ns.map V.int)) (cs.map Prod.snd)).H s₁.heap := fun b u e => by
    rcases (T.all b u e).2 with ⟨_, z, z2⟩ | ⟨o, y, _, _, z, z2, _⟩
    · rw [z]
      exact z2
    · rw [z] at e
      have e' : hp0 K a (obS vs) (.lst (ns.map V.int)) (cs.map Prod.snd) b = some (.frz o y) := e
      unfold hp0 at e'
      split at e'
      · cases e'
      · split at e'
        · next hc =>
          obtain ⟨e3, e4⟩ := HO.frz.inj (Option.some.inj e')
          subst e3 e4
          rw [z, hc.1]
          exact ⟨ha, by rw [List.length_map]; exact hl, vs, _, hv, ha⟩
        · cases e'
  have told : Is K (wd0 K a (obS vs) (.lst (ns.map V.int)) (cs.map Prod.snd)).F (.ref a) (.d (.list (ns.map .int))) := by
    refine Dp.lst ?_ (dp_ints K _ ns)
    cases q : K.lookup a with
    | none =>
      refine .inl (.inr ⟨obS vs, ?_⟩)
      show (if a ∈ cs.map Prod.snd then none else hp0 K a (obS vs) (.lst (ns.map V.int)) (cs.map Prod.snd) a) = _
      rw [if_neg aT]
      unfold hp0
      rw [if_neg aT, if_pos ⟨rfl, q⟩]
    | some o =>
      have e := KX a o q
      rw [ha] at e
      cases e
      exact .inr ⟨_, vs.toArray, _, q, rfl, rfl, rfl, by rw [List.size_toArray, hi.length]; exact hl, hv⟩
  have e0 : Env0 P w K mg (hidT s₁.heap (wd0 K a (obS vs) (.lst (ns.map V.int)) (cs.map Prod.snd)).H) callerA [] s₁ (wd0 K a (obS vs) (.lst (ns.map V.int)) (cs.map Prod.snd)).H :=
    ⟨rfl, T.mod KX hns hb hbb hlim, fun b o e => of_hidT e, Nat.le_of_eq (hidT_size _ _), trivial, (fun b hb => nomatch (show b ∈ ([] : List Addr) from hb)), ok, .of_eq hg⟩
  have go := (F _ (T.kin KX) (T.ns hns) fun p hp => T.tabB hns hbm (hT p hp) (C p hp)).run callerA [] s₁ (wd0 K a (obS vs) (.lst (ns.map V.int)) (cs.map Prod.snd)).H ⟨[.ref a], []⟩ [.ref a] [.ref a] (fun v _ => v = .bl true) hr e0 (hbind s₁ (.ref a)) (.cons rfl .nil)
    (hsp (wd0 K a (obS vs) (.lst (ns.map V.int)) (cs.map Prod.snd)) (fun p hp => ⟨T.tab _ (at_ p hp), if_pos (at_ p hp)⟩) told)
  refine codeAny_mono go fun r s' q => ?_
  cases r with
  | error e => exact False.elim q
  | ok fl =>
    cases fl with
    | ret u =>
      obtain ⟨v, H', os, bare, un, ok', rv, q'⟩ := q
      have q2 : v = .bl true := q'
      subst q2
      obtain rfl : u = Value.bool true := rv
      exact ⟨rfl, T.old hT C un ok', os, bare⟩
    | _ => exact False.elim q
theorem roomG_start {k : Nat} (h : k ≤ 12) : RoomG k callerA := by
  exact RoomG.mono ⟨⟨rfl, by decide, by decide⟩, rfl⟩ h
end Pv
set_option Elab.async false
set_option linter.all false
set_option maxRecDepth 100000
set_option maxHeartbeats 4000000
namespace Pv
open PySem PySem.Spec PyProof.Rows L2
/-- what the head's heap tells of the law -/
structure LawG (l : PySem.W.OpenLaw) (w : World) (K : PySem.W.Frag) (k n : Nat) (x : Str) (mg : Str → Option Value) (fa : Addr) (h : Heap) (cs : List (Addr × Addr)) : Prop where
  kin : K.In h
  tab : ∀ p ∈ cs, h.get? p.2 = some { cls := .none, data := .fields #[] }
  out : ∀ p ∈ cs, K.lookup p.2 = none
  code : ∀ p ∈ cs, PySem.W.CodeHd h p.1 p.2
  law : ∃ (fd : FuncData) (sp : Spg), (∀ (s : Shared) (u : Value), BindsTo s fd ⟨[u], []⟩ [(x, u)]) ∧
    (∀ base : Heap, K.In base → base.Ns mainGlobals mg → (∀ p ∈ cs, LamX.TabB base mg p.1 p.2) → FnG l.prog w K mg base k fa fd [x] sp) ∧
    ∀ (W : Wd) (a : Addr) (ns : List Int), ns.length ≤ n → (∀ z ∈ ns, Builtin.Int.intBits z ≤ 1048576) → (∀ p ∈ cs, W.H p.2 = some (.tbl #[]) ∧ W.F p.2 = none) → Is K W.F (.ref a) (.d (.list (ns.map .int))) → sp [.ref a] W.H (fun v _ => v = .bl true)
theorem walkG {l : PySem.W.OpenLaw} {n k : Nat} {q : Program} {loose : List Str} {XP : (Str → Option Value) → Heap → Prop} {YP : World → Heap → Prop} {d : DefRec} {x : Str}
    (hn : l.most = some n) (hn2 : n ≤ sizeLine) (hdf : d.params.defaults = []) (hk : k ≤ 12)
    (F : ∀ (w : World) (mg : Str → Option Value) (fa : Addr) (h : Heap), YP w h → h.Ns mainGlobals mg → mg d.name = some (.ref fa) → ∃ (K : PySem.W.Frag) (cs : List (Addr × Addr)), LawG l w K k n x mg fa h cs) :
    PySem.W.WalkO q loose XP YP l.row.toRowW d [] (fun f vs => PySem.call f vs) := by
  refine Att.attach_callB hn hdf fun w s₀ s₁ mg mb fa o pm cd doc a vs ns G Y _ _ _ hmg hobj hints hlen hbits hg => ?_
  obtain ⟨K, cs, L⟩ := F w mg fa _ Y G.T.g hmg
  obtain ⟨fd, sp, hb, hF, hsp⟩ := L.law
  exact call_end L.kin G.T.g G.T.b G.T.builtins G.T.nolimit hg L.tab L.out L.code G.T.bmain hobj hints (Nat.le_trans hlen hn2) (roomG_start hk) hF hb fun W hW hi => hsp W a ns hlen hbits hW hi
section
variable {fa : List He.Fa} {fn : List He.DefD} {K : PySem.W.Frag} {h : Heap} {mg : Str → Option Value} {x q : Str} {st : Stmt}
theorem fd_of (X : K.In h) (G : h.Ns mainGlobals mg) (c : He.SaysD fa fn K) (i j : Nat) (hi : fa[i]? = some (.glo x) := by rfl) (hj : fn[j]? = some ⟨(x, none), x, x, defArgs st, defBody st, defScope st, [], []⟩ := by rfl) : Fd K mg x st := by
  obtain ⟨fd, F⟩ := c.def_ j hj
  exact ⟨_, fd, He.glo_ok X G (c.fact i hi), F⟩
theorem lm_of {base : Heap} {T : List (Addr × Str)} (X : K.In h) (G : h.Ns mainGlobals mg) (c : He.SaysD fa fn K) (i j : Nat) (TB : LamX.TabB base mg (He.cT K (x, none)).1 (He.cT K (x, none)).2) (hT : ((He.cT K (x, none)).2, q) ∈ T) (hu : ∀ p ∈ T, p.1 = (He.cT K (x, none)).2 → p.2 = q)
    (hi : fa[i]? = some (.glo x) := by rfl) (hj : fn[j]? = some ⟨(x, none), x, x, defArgs st, defBody st, defScope st, [], []⟩ := by rfl) : Lm K mg base T x st q := by
  obtain ⟨fd, F⟩ := c.def_ j hj
  have F' : FnD K x st (He.fAd K (x, none)) fd := F
  obtain ⟨oc, od, dV, kV, doc, pm, an, cdv, ct, osl, e, lk, hcd, _, _⟩ := F'.ex
  obtain ⟨cc, e2⟩ := He.codeIn_ref hcd
  have e3 : fd.code = .ref cc := by rw [e]; exact e2
  have e4 := He.codeOf_eq lk e3
  refine ⟨_, fd, (He.cT K (x, none)).2, (He.cT K (x, none)).1, He.glo_ok X G (c.fact i hi), F', ?_, TB, hT, hu⟩
  rw [e3]
  exact congrArg Value.ref e4.symm
end
theorem Cl.fn' {P : Program} {w : World} {K : PySem.W.Frag} {mg : Str → Option Value} {base : Heap} {k : Nat} {s : Str} {st : Stmt} {ps : List Str} {sp : Spg} (C : Cl P w K mg base k s st ps sp) {f : Addr} {fd : FuncData} (hm : mg s = some (.ref f)) (F : FnD K s st f fd) : FnG P w K mg base k f fd ps sp := by
  obtain ⟨f', fd', h1, h2, h3⟩ := C.ex
  rw [hm] at h1
  have e : f = f' := Value.ref.inj (Option.some.inj h1)
  subst e
  obtain ⟨_, _, _, _, _, _, _, _, _, _, _, l1, _⟩ := F.ex
  obtain ⟨_, _, _, _, _, _, _, _, _, _, _, l2, _⟩ := h2.ex
  rw [l1] at l2
  injection l2 with l2
  injection l2 with _ _ l2 _
  injection l2 with l2
  subst l2
  exact h3
end Pv
set_option Elab.async false
set_option linter.all false
set_option maxRecDepth 100000
set_option maxHeartbeats 4000000
/-! Xv: judgements without worlds: a state is a list of what the names stand for. -/
namespace Xv
open PySem PySem.Spec PyProof.Rows L2 Pv
/-- what a name stands for: nothing known; a value; an own list; an own dict; a known object -/
inductive Sl where
  | no
  | v (x : Sv)
  | l (ds : List PD)
  | dk (kvs : List (Key × PD))
  | at_ (a : Addr)
def Sl.isO : Sl → Bool
  | .l _ => true
  | .dk _ => true
  | _ => false
def SlOk (m : Mode) (K : PySem.W.Frag) (W0 W : Wd) : Sl → Option (Option V) → Prop
  | .no, _ => True
  | .v x, o => ∃ v, o = some (some v) ∧ Is K W.F v x
  | .l ds, o => ∃ q, o = some (some (.ref q)) ∧ OwnL K W q ds ∧ W0.H q = none ∧ ¬ m.M q
  | .dk kvs, o => ∃ q, o = some (some (.ref q)) ∧ OwnD K W q kvs ∧ W0.H q = none ∧ ¬ m.M q
  | .at_ a, o => o = some (some (.ref a))
abbrev Ctx := List Sl
structure Ag (m : Mode) (K : PySem.W.Frag) (W0 : Wd) (Γ : Ctx) (σ : L2.St) (W : Wd) : Prop where
  len : σ.length = Γ.length
  le : Le m.M W0 W
  ok : ∀ (n : Nat) s, Γ[n]? = some s → SlOk m K W0 W s σ[n]?
  sep : ∀ (n n' : Nat) s s', Γ[n]? = some s → Γ[n']? = some s' → s.isO = true → s'.isO = true → σ[n]? = σ[n']? → n = n'
section
variable {m : Mode} {K : PySem.W.Frag} {W0 W T : Wd} {Γ : Ctx} {σ : L2.St} {n : Nat} {x : Sv} {v : V} {q : Addr} {ds : List PD} {kvs : List (Key × PD)} {s : Sl}
theorem SlOk.le {o : Option (Option V)} (h : SlOk m K W0 W s o) (l : Le m.M W T) : SlOk m K W0 T s o := by
  cases s with
  | no => trivial
  | v x =>
    obtain ⟨v, e, h⟩ := h
    exact ⟨v, e, h.le l⟩
  | l ds =>
    obtain ⟨q, e, h, h2, h3⟩ := h
    exact ⟨q, e, h.le l h3, h2, h3⟩
  | dk kvs =>
    obtain ⟨q, e, h, h2, h3⟩ := h
    exact ⟨q, e, h.le l h3, h2, h3⟩
  | at_ a => exact h
theorem Ag.go (A : Ag m K W0 Γ σ W) (l : Le m.M W T) : Ag m K W0 Γ σ T := ⟨A.len, A.le.trans l, fun n s e => (A.ok n s e).le l, A.sep⟩
theorem own_ref {o : Option (Option V)} (h : SlOk m K W0 W s o) (hs : s.isO = true) : ∃ q, o = some (some (.ref q)) ∧ W.H q ≠ none ∧ W0.H q = none ∧ ¬ m.M q := by
  cases s with
  | no => cases hs
  | v x => cases hs
  | at_ a => cases hs
  | l ds =>
    obtain ⟨q, e, ⟨_, us, h1, _⟩, h2, h3⟩ := h
    exact ⟨q, e, (by rw [h1]; intro z; cases z), h2, h3⟩
  | dk kvs =>
    obtain ⟨q, e, ⟨_, us, h1, _⟩, h2, h3⟩ := h
    exact ⟨q, e, (by rw [h1]; intro z; cases z), h2, h3⟩
theorem get_set {α : Type} {l : List α} {a b : α} {n k : Nat} (h : (l.set n a)[k]? = some b) : (k = n ∧ b = a) ∨ (k ≠ n ∧ l[k]? = some b) := by
  by_cases e : k = n
  · subst e
    rw [List.getElem?_set_self'] at h
    cases q : l[k]? with
    | none =>
      rw [q] at h
      cases h
    | some c =>
      rw [q] at h
      exact .inl ⟨rfl, (Option.some.inj h).symm⟩
  · rw [List.getElem?_set_ne (fun z => e z.symm)] at h
    exact .inr ⟨e, h⟩
theorem set_at {α : Type} {l : List α} {a : α} {n : Nat} (h : n < l.length) : (l.set n a)[n]? = some a := by
  rw [List.getElem?_set_self h]
/-- a slot takes something that is not an own object, or an own object that no other slot has -/
theorem Ag.set (A : Ag m K W0 Γ σ W) {o : Option V} (h : n < Γ.length → SlOk m K W0 W s (some o)) (hs : s.isO = true → ∀ n', n' ≠ n → ∀ s', Γ[n']? = some s' → s'.isO = true → σ[n']? ≠ some o) : Ag m K W0 (Γ.set n s) (σ.set n o) W := by
  refine ⟨by rw [List.length_set, List.length_set]; exact A.len, A.le, fun k s' e => ?_, fun k k' t t' e e' ht ht' eq => ?_⟩
  · rcases get_set e with ⟨rfl, rfl⟩ | ⟨ne, e⟩
    · have hk : k < Γ.length := by
        have := (List.getElem?_eq_some_iff.mp e).1
        rwa [List.length_set] at this
      rw [set_at (by rw [A.len]; exact hk)]
      exact h hk
    · rw [List.getElem?_set_ne (fun z => ne z.symm)]
      exact A.ok k s' e
  · have inb : ∀ {k t}, (Γ.set n s)[k]? = some t → k < Γ.length := fun {k t} e => by
      have := (List.getElem?_eq_some_iff.mp e).1
      rwa [List.length_set] at this
    have ik := inb e
    have ik' := inb e'
    rcases get_set e with ⟨rfl, rfl⟩ | ⟨ne, e1⟩
    · rcases get_set e' with ⟨rfl, rfl⟩ | ⟨ne', e1'⟩
      · rfl
      · rw [set_at (by rw [A.len]; exact ik), List.getElem?_set_ne (fun z => ne' z.symm)] at eq
        exact absurd eq.symm (hs ht k' ne' t' e1' ht')
    · rcases get_set e' with ⟨rfl, rfl⟩ | ⟨ne', e1'⟩
      · rw [set_at (by rw [A.len]; exact ik'), List.getElem?_set_ne (fun z => ne z.symm)] at eq
        exact absurd eq (hs ht' k ne t e1 ht)
      · rw [List.getElem?_set_ne (fun z => ne z.symm), List.getElem?_set_ne (fun z => ne' z.symm)] at eq
        exact A.sep k k' t t' e1 e1' ht ht' eq
theorem Ag.setv (A : Ag m K W0 Γ σ W) (h : Is K W.F v x) : Ag m K W0 (Γ.set n (.v x)) (σ.set n (some v)) W := A.set (fun _ => ⟨v, rfl, h⟩) (fun z => nomatch z)
theorem Ag.setat {a : Addr} (A : Ag m K W0 Γ σ W) : Ag m K W0 (Γ.set n (.at_ a)) (σ.set n (some (.ref a))) W := A.set (fun _ => rfl) (fun z => nomatch z)
theorem Ag.fresh (A : Ag m K W0 Γ σ W) (hq : W.H q = none) : ∀ (n' : Nat) s', Γ[n']? = some s' → s'.isO = true → σ[n']? ≠ some (some (.ref q)) := fun n' s' e hs z => by
  obtain ⟨q', e', h1, _⟩ := own_ref (A.ok n' s' e) hs
  rw [z] at e'
  have : q = q' := V.ref.inj (Option.some.inj (Option.some.inj e'))
  subst this
  exact h1 hq
theorem Ag.setl (A : Ag m K W0 Γ σ W) (l : Le m.M W T) (hq : W.H q = none) (hm : ¬ m.M q) (h : OwnL K T q ds) : Ag m K W0 (Γ.set n (.l ds)) (σ.set n (some (.ref q))) T :=
  (A.go l).set (fun _ => ⟨q, rfl, h, A.le.back hq, hm⟩) fun _ n' _ s' e hs => A.fresh hq n' s' e hs
theorem Ag.setd (A : Ag m K W0 Γ σ W) (l : Le m.M W T) (hq : W.H q = none) (hm : ¬ m.M q) (h : OwnD K T q kvs) : Ag m K W0 (Γ.set n (.dk kvs)) (σ.set n (some (.ref q))) T :=
  (A.go l).set (fun _ => ⟨q, rfl, h, A.le.back hq, hm⟩) fun _ n' _ s' e hs => A.fresh hq n' s' e hs
theorem SlOk.mx {o : Option (Option V)} (h : SlOk m K W0 W s o) (l : Le (MX m.M q) W T) (hs : s.isO = true → o ≠ some (some (.ref q))) : SlOk m K W0 T s o := by
  cases s with
  | no => trivial
  | v x =>
    obtain ⟨v, e, h⟩ := h
    exact ⟨v, e, h.le l⟩
  | l ds =>
    obtain ⟨q', e, h, h2, h3⟩ := h
    exact ⟨q', e, h.mx l h3 fun z => hs rfl (by rw [e, z]), h2, h3⟩
  | dk kvs =>
    obtain ⟨q', e, h, h2, h3⟩ := h
    exact ⟨q', e, h.mx l h3 fun z => hs rfl (by rw [e, z]), h2, h3⟩
  | at_ a => exact h
/-- the object of slot n was changed -/
theorem Ag.mut {s' : Sl} (A : Ag m K W0 Γ σ W) (l : Le (MX m.M q) W T) (hn : Γ[n]? = some s) (hs : s.isO = true) (hq : σ[n]? = some (some (.ref q))) (h : SlOk m K W0 T s' (some (some (.ref q)))) (hs' : s'.isO = true) : Ag m K W0 (Γ.set n s') σ T := by
  obtain ⟨q2, e2, _, h0, hm⟩ := own_ref (A.ok n s hn) hs
  rw [hq] at e2
  have : q = q2 := V.ref.inj (Option.some.inj (Option.some.inj e2))
  subst this
  refine ⟨by rw [List.length_set]; exact A.len, A.le.step l h0, fun k t e => ?_, fun k k' t t' e e' ht ht' eq => ?_⟩
  · rcases get_set e with ⟨rfl, rfl⟩ | ⟨ne, e⟩
    · rw [hq]
      exact h
    · refine (A.ok k t e).mx l fun ht z => ?_
      exact ne (A.sep k n t s e hn ht hs (by rw [z, hq]))
  · have old : ∀ {k : Nat} {t : Sl}, (Γ.set n s')[k]? = some t → t.isO = true → ∃ u : Sl, Γ[k]? = some u ∧ u.isO = true := fun {k t} e ht => by
      rcases get_set e with ⟨e1, _⟩ | ⟨ne, e⟩
      · rw [e1]
        exact ⟨s, hn, hs⟩
      · exact ⟨t, e, ht⟩
    obtain ⟨u, e1, h1⟩ := old e ht
    obtain ⟨u', e1', h1'⟩ := old e' ht'
    exact A.sep k k' u u' e1 e1' h1 h1' eq
/-- less is known -/
theorem Ag.sub {Γ' : Ctx} (A : Ag m K W0 Γ σ W) (hl : Γ'.length = Γ.length) (h : ∀ (n : Nat) s, Γ'[n]? = some s → s = .no ∨ Γ[n]? = some s) : Ag m K W0 Γ' σ W := by
  refine ⟨A.len.trans hl.symm, A.le, fun n s e => ?_, fun n n' s s' e e' hs hs' eq => ?_⟩
  · rcases h n s e with rfl | e
    · trivial
    · exact A.ok n s e
  · rcases h n s e with rfl | e1
    · cases hs
    · rcases h n' s' e' with rfl | e2
      · cases hs'
      · exact A.sep n n' s s' e1 e2 hs hs' eq
def wipeC (Γ : Ctx) : List Nat → Ctx
  | [] => Γ
  | v :: vs => (wipeC Γ vs).set v .no
theorem Ag.wipe (A : Ag m K W0 Γ σ W) : ∀ vs : List Nat, Ag m K W0 (wipeC Γ vs) (L2.wipe σ vs) W
  | [] => A
  | v :: vs => (Ag.wipe A vs).set (fun _ => trivial) (fun z => nomatch z)
end
/-- the frozen part alone -/
def Sl.fro : Sl → Sl
  | .v x => .v x
  | _ => .no
def froC (Γ : Ctx) : Ctx := Γ.map Sl.fro
theorem Ag.fro {m : Mode} {K : PySem.W.Frag} {W0 W : Wd} {Γ : Ctx} {σ : L2.St} (A : Ag m K W0 Γ σ W) : Ag m0 K (fw W.F) (froC Γ) σ (fw W.F) := by
  have g : ∀ (n : Nat) s, (froC Γ)[n]? = some s → s.isO = false ∧ (s = .no ∨ ∃ x, s = .v x ∧ Γ[n]? = some (.v x)) := fun n s e => by
    unfold froC at e
    rw [List.getElem?_map] at e
    cases q : Γ[n]? with
    | none =>
      rw [q] at e
      cases e
    | some t =>
      rw [q] at e
      have e2 : t.fro = s := Option.some.inj e
      subst e2
      cases t with
      | v x => exact ⟨rfl, .inr ⟨x, rfl, rfl⟩⟩
      | _ => exact ⟨rfl, .inl rfl⟩
  refine ⟨by rw [A.len, froC, List.length_map], Le.refl _, fun n s e => ?_, fun n n' s s' e e' hs => ?_⟩
  · rcases (g n s e).2 with rfl | ⟨x, rfl, e2⟩
    · trivial
    · obtain ⟨v, e3, h⟩ := A.ok n _ e2
      exact ⟨v, e3, h⟩
  · rw [(g n s e).1] at hs
    cases hs
end Xv
set_option Elab.async false
set_option linter.all false
set_option maxRecDepth 100000
set_option maxHeartbeats 4000000
namespace Xv
open PySem PySem.Spec PyProof.Rows L2 Pv
/-! ### judgements -/
section
variable (m : Mode) (Y : Fam) (Γ : Ctx)
def X (i : m.ι) (e : Expr) (x : Sv) (j : m.ι) : Prop := ∀ W0 σ W, Ag m Y.K W0 Γ σ W → E m Y σ W i e x j
def XL (i : m.ι) (e : Expr) (ds : List PD) (j : m.ι) : Prop := ∀ W0 σ W, Ag m Y.K W0 Γ σ W → EL m Y σ W i e ds j
def XD (i : m.ι) (e : Expr) (kvs : List (Key × PD)) (j : m.ι) : Prop := ∀ W0 σ W, Ag m Y.K W0 Γ σ W → ED m Y σ W i e kvs j
def XR (i : m.ι) (e : Expr) (ds : List PD) (j : m.ι) : Prop := ∀ W0 σ W, Ag m Y.K W0 Γ σ W → ERl m Y σ W i e ds j
def XK (i : m.ι) (e : Expr) (kvs : List (Key × PD)) (j : m.ι) : Prop := ∀ W0 σ W, Ag m Y.K W0 Γ σ W → ERd m Y σ W i e kvs j
def XC (i : m.ι) (e : Expr) (u : Bool) (j : m.ι) : Prop := ∀ W0 σ W, Ag m Y.K W0 Γ σ W → EC m Y σ W i e u j
def XT (i : m.ι) (e : Expr) (u : Bool) (j : m.ι) : Prop := ∀ W0 σ W, Ag m Y.K W0 Γ σ W → ET m Y σ W i e u j
def XW (i : m.ι) (e : Expr) (u : Bool) (j : m.ι) : Prop := ∀ W0 σ W, Ag m Y.K W0 Γ σ W → EW m Y σ W i e u j
def XA (i : m.ι) (es : List Expr) (xs : List Sv) (j : m.ι) : Prop := ∀ W0 σ W, Ag m Y.K W0 Γ σ W → EA m Y σ W i es xs j
def XKw (i : m.ι) (kws : List Keyword) (xs : List Sv) (j : m.ι) : Prop := ∀ W0 σ W, Ag m Y.K W0 Γ σ W → EK m Y σ W i kws xs j
def XO (i : m.ι) (e : Option Expr) (o : Option Int) (j : m.ι) : Prop := ∀ W0 σ W, Ag m Y.K W0 Γ σ W → EO m Y σ W i e o j
def XI {α : Type} (i : m.ι) (tg iter : Expr) (xs : List α) (enc : α → PD) (j : m.ι) : Prop := ∀ W0 σ W, Ag m Y.K W0 Γ σ W → EI m Y σ W i tg iter xs.length (itE Y.K xs enc) j
def XS (i : m.ι) (es : List Expr) (u : Bool) (j : m.ι) : Prop := ∀ W0 σ W, Ag m Y.K W0 Γ σ W → ETs m Y σ W i es u j
end
abbrev Se (Y : Fam) (e : Expr) (es : List Expr) : Prop := ∀ a, starEach (e :: es) (Y.X a).env = (false, eval e (Y.X a).env) :: starEach es (Y.X a).env
abbrev Bt (Y : Fam) (pos : Pos) (es : List Expr) : Prop := ∀ a, (backTo pos (starEach es (Y.X a).env)).any (·.1) = false
abbrev Fd' (Y : Fam) (iter : Expr) : Prop := ∀ a, ∀ x, foldedSetIterable iter (Y.X a).env x = pure x
section
variable {m : Mode} {Y : Fam} {Γ : Ctx} {i j k l : m.ι} {e a b c key tg iter : Expr} {es rest : List Expr} {pos p p1 p2 p3 : Pos} {x y z : Sv} {d d' : PD} {ds es' : List PD} {kvs : List (Key × PD)} {u v : Bool} {s : Str} {n n1 n2 n3 g : Int} {ns : List Int}
theorem X.is (h : X m Y Γ i e x j) (q : x = y) : X m Y Γ i e y j := q ▸ h
theorem XL.is (h : XL m Y Γ i e ds j) (q : ds = es') : XL m Y Γ i e es' j := q ▸ h
theorem XR.is (h : XR m Y Γ i e ds j) (q : ds = es') : XR m Y Γ i e es' j := q ▸ h
theorem XT.is (h : XT m Y Γ i e u j) (q : u = v) : XT m Y Γ i e v j := q ▸ h
theorem XC.is (h : XC m Y Γ i e u j) (q : u = v) : XC m Y Γ i e v j := q ▸ h
/-! names -/
theorem zip_look {N : List Str} {Γ : Ctx} {s : Str} {t : Sl} (h : (N.zip Γ).lookup s = some t) : ∃ n : Nat, N[n]? = some s ∧ Γ[n]? = some t := by
  induction N generalizing Γ with
  | nil => cases h
  | cons a N ih =>
    cases Γ with
    | nil => cases h
    | cons b Γ =>
      rw [List.zip_cons_cons, List.lookup_cons] at h
      by_cases e : s == a
      · rw [e] at h
        have e2 : s = a := by simpa using e
        exact ⟨0, by rw [e2] <;> rfl, h⟩
      · simp only [e] at h
        obtain ⟨n, h1, h2⟩ := ih h
        exact ⟨n + 1, h1, h2⟩
theorem x_v (h : (Y.N.zip Γ).lookup s = some (.v x) := by rfl) (hv : visB Y.sc s = true := by rfl) (hd : (s == ("__debug__" : Str)) = false := by decide) (hcd : (s == ("__classdict__" : Str)) = false := by decide) : X m Y Γ i (.Name s pos) x i := fun W0 σ W A => by
  obtain ⟨n, h1, h2⟩ := zip_look h
  obtain ⟨v, h3, h4⟩ := A.ok n _ h2
  exact e_var h1 (vis_of hv) h3 h4 hd hcd
theorem xr_v (h : (Y.N.zip Γ).lookup s = some (.l ds) := by rfl) (hv : visB Y.sc s = true := by rfl) (hd : (s == ("__debug__" : Str)) = false := by decide) (hcd : (s == ("__classdict__" : Str)) = false := by decide) : XR m Y Γ i (.Name s pos) ds i := fun W0 σ W A => by
  obtain ⟨n, h1, h2⟩ := zip_look h
  obtain ⟨q, h3, h4, _, h5⟩ := A.ok n _ h2
  exact erl_own h1 (vis_of hv) h3 h4 h5 hd hcd
theorem xk_v (h : (Y.N.zip Γ).lookup s = some (.dk kvs) := by rfl) (hv : visB Y.sc s = true := by rfl) (hd : (s == ("__debug__" : Str)) = false := by decide) (hcd : (s == ("__classdict__" : Str)) = false := by decide) : XK m Y Γ i (.Name s pos) kvs i := fun W0 σ W A => by
  obtain ⟨n, h1, h2⟩ := zip_look h
  obtain ⟨q, h3, h4, _, h5⟩ := A.ok n _ h2
  exact erd_own h1 (vis_of hv) h3 h4 h5 hd hcd
/-! constants -/
theorem x_int {l : Nat} : X m Y Γ i (.Constant (.int n) l pos) (.d (.int n)) i := fun _ _ _ _ => e_int
theorem x_bl {l : Nat} : X m Y Γ i (.Constant (.bool u) l pos) (.d (.bool u)) i := fun _ _ _ _ => e_bl
theorem x_non {l : Nat} : X m Y Γ i (.Constant .none l pos) (.d .none) i := fun _ _ _ _ => e_non
theorem x_str {l : Nat} : X m Y Γ i (.Constant (.str s) l pos) (.d (.str s)) i := fun _ _ _ _ => e_str
theorem x_gint (hm : ∃ t, Y.mg s = some (.int n t)) (hg : Gb Y s := by rfl) (hd : (s == ("__debug__" : Str)) = false := by decide) : X m Y Γ i (.Name s pos) (.d (.int n)) i := fun _ _ _ _ => e_gint hg hm hd
/-! ints -/
theorem x_add (ha : X m Y Γ i a (.d (.int n1)) j) (hb : X m Y Γ j b (.d (.int n2)) k) : X m Y Γ i (.BinOp a .Add b pos) (.d (.int (n1 + n2))) k := fun _ _ _ A => e_add (ha _ _ _ A) (hb _ _ _ A)
theorem x_sub (ha : X m Y Γ i a (.d (.int n1)) j) (hb : X m Y Γ j b (.d (.int n2)) k) : X m Y Γ i (.BinOp a .Sub b pos) (.d (.int (n1 - n2))) k := fun _ _ _ A => e_sub (ha _ _ _ A) (hb _ _ _ A)
theorem x_mul (ha : X m Y Γ i a (.d (.int n1)) j) (hb : X m Y Γ j b (.d (.int n2)) k) (hc : CMul n1 n2) : X m Y Γ i (.BinOp a .Mult b pos) (.d (.int (n1 * n2))) k := fun _ _ _ A => e_mul (ha _ _ _ A) (hb _ _ _ A) hc
theorem x_mod (ha : X m Y Γ i a (.d (.int n1)) j) (hb : X m Y Γ j b (.d (.int n2)) k) (hc : 0 < n2) : X m Y Γ i (.BinOp a .Mod b pos) (.d (.int (n1 % n2))) k := fun _ _ _ A => e_mod (ha _ _ _ A) (hb _ _ _ A) hc
theorem x_fdiv (ha : X m Y Γ i a (.d (.int n1)) j) (hb : X m Y Γ j b (.d (.int n2)) k) (hc : CDiv n1 n2) : X m Y Γ i (.BinOp a .FloorDiv b pos) (.d (.int (n1 / n2))) k := fun _ _ _ A => e_fdiv (ha _ _ _ A) (hb _ _ _ A) hc
theorem x_modN (ha : X m Y Γ i a (.d (.int n1)) j) (hb : X m Y Γ j b (.d (.int n2)) k) (hc : n2 ≠ 0) : X m Y Γ i (.BinOp a .Mod b pos) (.d (.int (n1.fmod n2))) k := fun _ _ _ A => e_int2 (fun _ => op_modN) (ha _ _ _ A) (hb _ _ _ A) hc
theorem x_fdivN (ha : X m Y Γ i a (.d (.int n1)) j) (hb : X m Y Γ j b (.d (.int n2)) k) (hc : n2 ≠ 0 ∧ n2.natAbs < 1073741824) : X m Y Γ i (.BinOp a .FloorDiv b pos) (.d (.int (n1.fdiv n2))) k := fun _ _ _ A => e_int2 (fun _ => op_fdivN) (ha _ _ _ A) (hb _ _ _ A) hc
theorem x_neg (ha : X m Y Γ i a (.d (.int n)) j) : X m Y Γ i (.UnaryOp .USub a pos) (.d (.int (-n))) j := fun _ _ _ A => e_neg (ha _ _ _ A)
/-! comparisons -/
theorem c'_lt (ha : X m Y Γ i a (.d (.int n1)) j) (hb : X m Y Γ j b (.d (.int n2)) k) : XC m Y Γ i (.Compare a [.Lt] [b] pos) (decide (n1 < n2)) k := fun _ _ _ A => c_lt (ha _ _ _ A) (hb _ _ _ A)
theorem c'_leq (ha : X m Y Γ i a (.d (.int n1)) j) (hb : X m Y Γ j b (.d (.int n2)) k) : XC m Y Γ i (.Compare a [.LtE] [b] pos) (decide (n1 ≤ n2)) k := fun _ _ _ A => c_leq (ha _ _ _ A) (hb _ _ _ A)
theorem c'_gt (ha : X m Y Γ i a (.d (.int n1)) j) (hb : X m Y Γ j b (.d (.int n2)) k) : XC m Y Γ i (.Compare a [.Gt] [b] pos) (decide (n2 < n1)) k := fun _ _ _ A => c_gt (ha _ _ _ A) (hb _ _ _ A)
theorem c'_ge (ha : X m Y Γ i a (.d (.int n1)) j) (hb : X m Y Γ j b (.d (.int n2)) k) : XC m Y Γ i (.Compare a [.GtE] [b] pos) (decide (n2 ≤ n1)) k := fun _ _ _ A => c_ge (ha _ _ _ A) (hb _ _ _ A)
theorem c'_eqi (ha : X m Y Γ i a (.d (.int n1)) j) (hb : X m Y Γ j b (.d (.int n2)) k) : XC m Y Γ i (.Compare a [.Eq] [b] pos) (decide (n1 = n2)) k := fun _ _ _ A => c_eqi (ha _ _ _ A) (hb _ _ _ A)
theorem c'_nei (ha : X m Y Γ i a (.d (.int n1)) j) (hb : X m Y Γ j b (.d (.int n2)) k) : XC m Y Γ i (.Compare a [.NotEq] [b] pos) (!decide (n1 = n2)) k := fun _ _ _ A => c_nei (ha _ _ _ A) (hb _ _ _ A)
theorem c'_eqs {t1 t2 : Str} (ha : X m Y Γ i a (.d (.str t1)) j) (hb : X m Y Γ j b (.d (.str t2)) k) : XC m Y Γ i (.Compare a [.Eq] [b] pos) (decide (t1 = t2)) k := fun _ _ _ A => c_eqs (ha _ _ _ A) (hb _ _ _ A)
theorem c'_nes {t1 t2 : Str} (ha : X m Y Γ i a (.d (.str t1)) j) (hb : X m Y Γ j b (.d (.str t2)) k) : XC m Y Γ i (.Compare a [.NotEq] [b] pos) (!decide (t1 = t2)) k := fun _ _ _ A => c_nes (ha _ _ _ A) (hb _ _ _ A)
theorem c'_isN {q : Nat} (h : X m Y Γ i a (.d d) j) : XC m Y Γ i (.Compare a [.Is] [.Constant .none q p] pos) (isNoneD d) j := fun _ _ _ A => c_isN (h _ _ _ A)
theorem c'_notN {q : Nat} (h : X m Y Γ i a (.d d) j) : XC m Y Γ i (.Compare a [.IsNot] [.Constant .none q p] pos) (!isNoneD d) j := fun _ _ _ A => c_notN (h _ _ _ A)
theorem c'_eqd (ha : X m Y Γ i a (.d d) j) (hb : X m Y Γ j b (.d d') k) (h1 : SeqAt.shaped d = true) (h2 : SeqAt.shaped d' = true) : XC m Y Γ i (.Compare a [.Eq] [b] pos) (PyData.eqv d d') k := fun _ _ _ A => c_eqd (ha _ _ _ A) (hb _ _ _ A) h1 h2
theorem c'_ned (ha : X m Y Γ i a (.d d) j) (hb : X m Y Γ j b (.d d') k) (h1 : SeqAt.shaped d = true) (h2 : SeqAt.shaped d' = true) : XC m Y Γ i (.Compare a [.NotEq] [b] pos) (!PyData.eqv d d') k := fun _ _ _ A => c_ned (ha _ _ _ A) (hb _ _ _ A) h1 h2
theorem c'_eqR (ha : XR m Y Γ i a ds j) (hb : X m Y Γ j b (.d d') k) (h1 : SeqAt.shaped (.list ds) = true) (h2 : SeqAt.shaped d' = true) : XC m Y Γ i (.Compare a [.Eq] [b] pos) (PyData.eqv (.list ds) d') k := fun _ _ _ A => c_eqR (ha _ _ _ A) (hb _ _ _ A) h1 h2
theorem c'_neR (ha : XR m Y Γ i a ds j) (hb : X m Y Γ j b (.d d') k) (h1 : SeqAt.shaped (.list ds) = true) (h2 : SeqAt.shaped d' = true) : XC m Y Γ i (.Compare a [.NotEq] [b] pos) (!PyData.eqv (.list ds) d') k := fun _ _ _ A => c_neR (ha _ _ _ A) (hb _ _ _ A) h1 h2
theorem c'_inT (ha : X m Y Γ i a (.d (.int g)) j) (hb : X m Y Γ j b (.d (.tuple (ns.map .int))) k) (hm : behindInMarks .In b = false := by rfl) : XC m Y Γ i (.Compare a [.In] [b] pos) (ns.contains g) k := fun _ _ _ A => c_inT (ha _ _ _ A) (hb _ _ _ A) hm
theorem c'_notinT (ha : X m Y Γ i a (.d (.int g)) j) (hb : X m Y Γ j b (.d (.tuple (ns.map .int))) k) (hm : behindInMarks .NotIn b = false := by rfl) : XC m Y Γ i (.Compare a [.NotIn] [b] pos) (!ns.contains g) k := fun _ _ _ A => c_notinT (ha _ _ _ A) (hb _ _ _ A) hm
theorem c'_inL (ha : X m Y Γ i a (.d (.int g)) j) (hb : XR m Y Γ j b (ns.map .int) k) (hm : behindInMarks .In b = false := by rfl) : XC m Y Γ i (.Compare a [.In] [b] pos) (ns.contains g) k := fun _ _ _ A => c_inL (ha _ _ _ A) (hb _ _ _ A) hm
theorem c'_notinL (ha : X m Y Γ i a (.d (.int g)) j) (hb : XR m Y Γ j b (ns.map .int) k) (hm : behindInMarks .NotIn b = false := by rfl) : XC m Y Γ i (.Compare a [.NotIn] [b] pos) (!ns.contains g) k := fun _ _ _ A => c_notinL (ha _ _ _ A) (hb _ _ _ A) hm
theorem c'_din (hk : X m Y Γ i key (.d (.int g)) j) (hd : XK m Y Γ j b kvs k) (hm : behindInMarks .In b = false := by rfl) : XC m Y Γ i (.Compare key [.In] [b] pos) (valD kvs (.inl g)).isSome k := fun _ _ _ A => c_din (hk _ _ _ A) (hd _ _ _ A) hm
theorem c'_dnotin (hk : X m Y Γ i key (.d (.int g)) j) (hd : XK m Y Γ j b kvs k) (hm : behindInMarks .NotIn b = false := by rfl) : XC m Y Γ i (.Compare key [.NotIn] [b] pos) (!(valD kvs (.inl g)).isSome) k := fun _ _ _ A => c_dnotin (hk _ _ _ A) (hd _ _ _ A) hm
theorem c'_leqleq (ha : X m Y Γ i a (.d (.int n1)) j) (hb : X m Y Γ j b (.d (.int n2)) k) (hc : X m Y Γ k c (.d (.int n3)) k) (hm : lastMarks [.LtE, .LtE] [b, c] = false := by with_unfolding_all rfl) :
    XC m Y Γ i (.Compare a [.LtE, .LtE] [b, c] pos) (decide (n1 ≤ n2) && decide (n2 ≤ n3)) k := fun _ _ _ A => c_leqleq (ha _ _ _ A) (hb _ _ _ A) (hc _ _ _ A) hm
theorem XC.val (h : XC m Y Γ i e u j) : X m Y Γ i e (.d (.bool u)) j := fun _ _ _ A => (h _ _ _ A).val
theorem XC.tst (h : XC m Y Γ i e u j) : XT m Y Γ i e u j := fun _ _ _ A => (h _ _ _ A).tst
/-! tests -/
theorem t_val (h : X m Y Γ i e (.d (.bool u)) j) (he : ∀ a, ∀ whole, isTrue e (Y.X a).env whole = (do let v ← whole; standAt e.pos; holding [v] (truthy v)) := by intro _ _; rfl) : XT m Y Γ i e u j := fun _ _ _ A => et_val (h _ _ _ A) he
theorem t_not (h : XT m Y Γ i e u j) : XT m Y Γ i (.UnaryOp .Not e pos) (!u) j := fun _ _ _ A => et_not (h _ _ _ A)
theorem t_w (h : XW m Y Γ i e u j) : XT m Y Γ i e u j := fun _ _ _ A => et_w (h _ _ _ A)
theorem w_and1 (h : XT m Y Γ i a u j) : XW m Y Γ i (.BoolOp .And [a] pos) u j := fun _ _ _ A => ew_and1 (h _ _ _ A)
theorem w_or1 (h : XT m Y Γ i a u j) : XW m Y Γ i (.BoolOp .Or [a] pos) u j := fun _ _ _ A => ew_or1 (h _ _ _ A)
theorem w_and (h : XT m Y Γ i a u j) (h2 : u = true → XW m Y Γ j (.BoolOp .And (b :: rest) pos) v j) : XW m Y Γ i (.BoolOp .And (a :: b :: rest) pos) (u && v) j := fun _ _ _ A => ew_and (h _ _ _ A) fun q => h2 q _ _ _ A
theorem w_or (h : XT m Y Γ i a u j) (h2 : u = false → XW m Y Γ j (.BoolOp .Or (b :: rest) pos) v j) : XW m Y Γ i (.BoolOp .Or (a :: b :: rest) pos) (u || v) j := fun _ _ _ A => ew_or (h _ _ _ A) fun q => h2 q _ _ _ A
theorem x_one {op : BoolOp} (h : X m Y Γ i a x j) : X m Y Γ i (.BoolOp op [a] pos) x j := fun _ _ _ A => e_one (h _ _ _ A)
theorem x_and (h : X m Y Γ i a (.d (.bool u)) j) (h2 : u = true → X m Y Γ j (.BoolOp .And (b :: rest) pos) (.d (.bool v)) j) : X m Y Γ i (.BoolOp .And (a :: b :: rest) pos) (.d (.bool (u && v))) j := fun _ _ _ A => e_and (h _ _ _ A) fun q => h2 q _ _ _ A
theorem x_or (h : X m Y Γ i a (.d (.bool u)) j) (h2 : u = false → X m Y Γ j (.BoolOp .Or (b :: rest) pos) (.d (.bool v)) j) : X m Y Γ i (.BoolOp .Or (a :: b :: rest) pos) (.d (.bool (u || v))) j := fun _ _ _ A => e_or (h _ _ _ A) fun q => h2 q _ _ _ A
theorem x_not (h : X m Y Γ i a (.d (.bool u)) j) : X m Y Γ i (.UnaryOp .Not a pos) (.d (.bool (!u))) j := fun _ _ _ A => e_not (h _ _ _ A)
theorem x_if (h : XT m Y Γ i c u j) (ha : u = true → X m Y Γ j a x j) (hb : u = false → X m Y Γ j b x j) : X m Y Γ i (.IfExp c a b pos) x j := fun _ _ _ A => e_if (h _ _ _ A) (fun q => ha q _ _ _ A) fun q => hb q _ _ _ A
/-! displays, arguments -/
theorem a_nil : XA m Y Γ i [] [] i := fun _ _ _ _ => ea_nil
theorem a_cons {xs : List Sv} (ha : X m Y Γ i e x j) (hb : XA m Y Γ j es xs k) (hs : Se Y e es := by intro _; rfl) : XA m Y Γ i (e :: es) (x :: xs) k := fun _ _ _ A => ea_cons (ha _ _ _ A) (hb _ _ _ A) hs
def XAd (m : Mode) (Y : Fam) (Γ : Ctx) (i : m.ι) (es : List Expr) (ds : List PD) (j : m.ι) : Prop := XA m Y Γ i es (ds.map Sv.d) j
theorem d_nil : XAd m Y Γ i [] [] i := a_nil
theorem d_cons (ha : X m Y Γ i e (.d d) j) (hb : XAd m Y Γ j es ds k) (hs : Se Y e es := by intro _; rfl) : XAd m Y Γ i (e :: es) (d :: ds) k := a_cons ha hb hs
theorem kw_nil : XKw m Y Γ i [] [] i := fun _ _ _ _ => ek_nil
theorem kw_cons {xs : List Sv} {nm : Option Str} {kpos : Pos} {kws : List Keyword} (ha : X m Y Γ i e x j) (hb : XKw m Y Γ j kws xs k) : XKw m Y Γ i (⟨nm, e, kpos⟩ :: kws) (x :: xs) k := fun _ _ _ A => ek_cons (ha _ _ _ A) (hb _ _ _ A)
theorem x_tup {q : Nat} (h : XAd m Y Γ i es ds j) (hl : ds.length ≤ 100000 := by exact Nat.le_of_ble_eq_true rfl) : X m Y Γ i (.Tuple es q pos) (.d (.tuple ds)) j := fun _ _ _ A => e_tup (h _ _ _ A) hl
theorem xl_lst (h : XAd m Y Γ i es ds j) (hl : ds.length ≤ 100000 := by exact Nat.le_of_ble_eq_true rfl) : XL m Y Γ i (.List es pos) ds j := fun _ _ _ A => el_lst (h _ _ _ A) hl
theorem XL.cold (h : XL m Y Γ i e ds j) : X m Y Γ i e (.d (.list ds)) j := fun _ _ _ A => (h _ _ _ A).E
theorem XL.r (h : XL m Y Γ i e ds j) : XR m Y Γ i e ds j := fun _ _ _ A => (h _ _ _ A).rl
theorem X.r (h : X m Y Γ i e (.d (.list ds)) j) : XR m Y Γ i e ds j := fun _ _ _ A => (h _ _ _ A).rl
theorem XD.cold (h : XD m Y Γ i e kvs j) : X m Y Γ i e (.dk kvs) j := fun _ _ _ A => (h _ _ _ A).E
theorem X.dic (h : X m Y Γ i e (.dk kvs) j) : XK m Y Γ i e kvs j := fun _ _ _ A => (h _ _ _ A).rd
theorem X.ptT (h : X m Y Γ i e (.pt ds) j) : X m Y Γ i e (.d (.tuple ds)) j := fun _ _ _ A => (h _ _ _ A).ptT
/-! items, slices -/
theorem x_ixt (ha : X m Y Γ i a (.d (.tuple ds)) j) (hb : X m Y Γ j b (.d (.int n)) k) (h : atI ds n = some d) (hs : PlainIx b := by intro _ _; rfl) : X m Y Γ i (.Subscript a b pos) (.d d) k := fun _ _ _ A => e_ixt (ha _ _ _ A) (hb _ _ _ A) h hs
theorem x_ixr (ha : XR m Y Γ i a ds j) (hb : X m Y Γ j b (.d (.int n)) k) (h : atI ds n = some d) (hs : PlainIx b := by intro _ _; rfl) : X m Y Γ i (.Subscript a b pos) (.d d) k := fun _ _ _ A => e_ixR (ha _ _ _ A) (hb _ _ _ A) h hs
theorem x_dget (hd : XK m Y Γ i a kvs j) (hk : X m Y Γ j key (.d (.int g)) k) (hv : valD kvs (.inl g) = some d) (hs : NoSl key := by intro _ _; rfl) : X m Y Γ i (.Subscript a key pos) (.d d) k := fun _ _ _ A => e_dget (hd _ _ _ A) (hk _ _ _ A) hv hs
theorem o_none : XO m Y Γ i none none i := fun _ _ _ _ => eo_none
theorem o_some (h : X m Y Γ i e (.d (.int g)) j) : XO m Y Γ i (some e) (some g) j := fun _ _ _ A => eo_some (h _ _ _ A)
theorem xl_slice {lo hi : Option Expr} {g1 g2 : Option Int} (ha : X m Y Γ i a (.d (.list ds)) j) (hl : XO m Y Γ j lo g1 k) (hh : XO m Y Γ k hi g2 l) : XL m Y Γ i (.Subscript a (.Slice lo hi none p2) pos) (cutD ds g1 g2) l := fun _ _ _ A => el_slice (ha _ _ _ A) (hl _ _ _ A) (hh _ _ _ A)
theorem x_sliceT {lo hi : Option Expr} {g1 g2 : Option Int} (ha : X m Y Γ i a (.d (.tuple ds)) j) (hl : XO m Y Γ j lo g1 k) (hh : XO m Y Γ k hi g2 l) : X m Y Γ i (.Subscript a (.Slice lo hi none p2) pos) (.d (.tuple (cutD ds g1 g2))) l := fun _ _ _ A => e_sliceT (ha _ _ _ A) (hl _ _ _ A) (hh _ _ _ A)
theorem xl_rev {q' : Nat} (ha : XR m Y Γ i a ds j) : XL m Y Γ i (.Subscript a (.Slice none none (some (.UnaryOp .USub (.Constant (.int 1) q' p1) p2)) p3) pos) ds.reverse j := fun _ _ _ A => el_rev (ha _ _ _ A)
theorem x_revT {q' : Nat} (ha : X m Y Γ i a (.d (.tuple ds)) j) : X m Y Γ i (.Subscript a (.Slice none none (some (.UnaryOp .USub (.Constant (.int 1) q' p1) p2)) p3) pos) (.d (.tuple ds.reverse)) j := fun _ _ _ A => e_revT (ha _ _ _ A)
/-! tuples, lists put together -/
theorem x_catT (ha : X m Y Γ i a (.d (.tuple ds)) j) (hb : X m Y Γ j b (.d (.tuple es')) k) (hl : ds.length + es'.length ≤ 100000) : X m Y Γ i (.BinOp a .Add b pos) (.d (.tuple (ds ++ es'))) k := fun _ _ _ A => e_catT (ha _ _ _ A) (hb _ _ _ A) hl
theorem x_mulT (ha : X m Y Γ i a (.d (.tuple ds)) j) (hb : X m Y Γ j b (.d (.int g)) k) (hne : ds ≠ []) (h0 : 0 ≤ g ∧ g ≤ 1000) (hl : ds.length ≤ 1000) : X m Y Γ i (.BinOp a .Mult b pos) (.d (.tuple (List.replicate g.toNat ds).flatten)) k := fun _ _ _ A => e_mulT (ha _ _ _ A) (hb _ _ _ A) hne h0 hl
theorem xl_mulL (ha : XL m Y Γ i a ds j) (hb : X m Y Γ j b (.d (.int g)) k) (hg : 0 ≤ g ∧ g ≤ 1000) (hl : ds.length ≤ 1000) : XL m Y Γ i (.BinOp a .Mult b pos) (List.replicate g.toNat ds).flatten k := fun _ _ _ A => el_mulL (ha _ _ _ A) (hb _ _ _ A) hg hl
/-! built-ins -/
theorem x_lenT (B : BI Y "len" (.builtin "len")) (ha : X m Y Γ i e (.d (.tuple ds)) j) (he : Se Y e [] := by intro _; rfl) : X m Y Γ i (.Call (.Name "len" p) [e] [] pos) (.d (.int (ds.length : Int))) j := fun _ _ _ A => e_lenT B (ha _ _ _ A) he
theorem x_lenR (B : BI Y "len" (.builtin "len")) (ha : XR m Y Γ i e ds j) (he : Se Y e [] := by intro _; rfl) (hpl : Bt Y pos [] := by intro _; rfl) : X m Y Γ i (.Call (.Name "len" p) [e] [] pos) (.d (.int (ds.length : Int))) j := fun _ _ _ A => e_lenR B (ha _ _ _ A) he hpl
theorem xl_listT (B : BI Y "list" (.type "list")) (ha : X m Y Γ i e (.d (.tuple ds)) j) (he : Se Y e [] := by intro _; rfl) : XL m Y Γ i (.Call (.Name "list" p) [e] [] pos) ds j := fun _ _ _ A => el_listT B (ha _ _ _ A) he
theorem xl_listR (B : BI Y "list" (.type "list")) (ha : XR m Y Γ i e ds j) (he : Se Y e [] := by intro _; rfl) (hpl : Bt Y pos [] := by intro _; rfl) : XL m Y Γ i (.Call (.Name "list" p) [e] [] pos) ds j := fun _ _ _ A => el_listR B (ha _ _ _ A) he hpl
theorem x_tupR (B : BI Y "tuple" (.type "tuple")) (ha : XR m Y Γ i e ds j) (he : Se Y e [] := by intro _; rfl) (hpl : Bt Y pos [] := by intro _; rfl) : X m Y Γ i (.Call (.Name "tuple" p) [e] [] pos) (.d (.tuple ds)) j := fun _ _ _ A => e_tupR B (ha _ _ _ A) he hpl
theorem x_tupP (B : BI Y "tuple" (.type "tuple")) (ha : XR m Y Γ i e ds j) (he : Se Y e [] := by intro _; rfl) (hpl : Bt Y pos [] := by intro _; rfl) : X m Y Γ i (.Call (.Name "tuple" p) [e] [] pos) (.pt ds) j := fun _ _ _ A => e_tupP B (ha _ _ _ A) he hpl
theorem x_abs (B : BI Y "abs" (.builtin "abs")) (ha : X m Y Γ i e (.d (.int n)) j) (he : Se Y e [] := by intro _; rfl) : X m Y Γ i (.Call (.Name "abs" p) [e] [] pos) (.d (.int (if n < 0 then -n else n))) j := fun _ _ _ A => e_abs B (ha _ _ _ A) he
theorem x_intI (B : BI Y "int" (.type "int")) (ha : X m Y Γ i e (.d (.int n)) j) (he : Se Y e [] := by intro _; rfl) : X m Y Γ i (.Call (.Name "int" p) [e] [] pos) (.d (.int n)) j := fun _ _ _ A => e_intI B (ha _ _ _ A) he
theorem x_max2 (B : BI Y "max" (.builtin "max")) (ha : X m Y Γ i a (.d (.int n1)) j) (hb : X m Y Γ j b (.d (.int n2)) k) (he : Se Y a [b] := by intro _; rfl) (he2 : Se Y b [] := by intro _; rfl) (hpl : Bt Y pos [b] := by intro _; rfl) : X m Y Γ i (.Call (.Name "max" p) [a, b] [] pos) (.d (.int (if n2 > n1 then n2 else n1))) k := fun _ _ _ A => e_max2 B (ha _ _ _ A) (hb _ _ _ A) he he2 hpl
theorem x_min2 (B : BI Y "min" (.builtin "min")) (ha : X m Y Γ i a (.d (.int n1)) j) (hb : X m Y Γ j b (.d (.int n2)) k) (he : Se Y a [b] := by intro _; rfl) (he2 : Se Y b [] := by intro _; rfl) (hpl : Bt Y pos [b] := by intro _; rfl) : X m Y Γ i (.Call (.Name "min" p) [a, b] [] pos) (.d (.int (if n2 < n1 then n2 else n1))) k := fun _ _ _ A => e_min2 B (ha _ _ _ A) (hb _ _ _ A) he he2 hpl
theorem x_minR (B : BI Y "min" (.builtin "min")) (ha : XR m Y Γ i e (ns.map .int) j) (hg : g ∈ ns) (hl : ∀ y ∈ ns, g ≤ y) (he : Se Y e [] := by intro _; rfl) (hpl : Bt Y pos [] := by intro _; rfl) : X m Y Γ i (.Call (.Name "min" p) [e] [] pos) (.d (.int g)) j := fun _ _ _ A => e_minR B (ha _ _ _ A) hg hl he hpl
theorem x_all {bs : List Bool} (B : BI Y "all" (.builtin "all")) (ha : X m Y Γ i e (.d (.list (bs.map .bool))) j) (he : Se Y e [] := by intro _; rfl) : X m Y Γ i (.Call (.Name "all" p) [e] [] pos) (.d (.bool (bs.all id))) j := fun _ _ _ A => e_all B (ha _ _ _ A) he
theorem x_any {bs : List Bool} (B : BI Y "any" (.builtin "any")) (ha : X m Y Γ i e (.d (.list (bs.map .bool))) j) (he : Se Y e [] := by intro _; rfl) : X m Y Γ i (.Call (.Name "any" p) [e] [] pos) (.d (.bool (bs.any id))) j := fun _ _ _ A => e_any B (ha _ _ _ A) he
theorem x_isinst {T : Str} {c : String} (B : BI Y "isinstance" (.builtin "isinstance")) (BT : BI Y T (.type c)) (ha : X m Y Γ i a (.d d) j) (hk : kitB (tyD d) c = some u) (hn : T ≠ "__name__" := by decide) (hd1 : (T == ("__debug__" : Str)) = false := by decide)
    (he : Se Y a [.Name T p2] := by intro _; rfl) (he2 : Se Y (.Name T p2) [] := by intro _; rfl) (hpl : Bt Y pos [.Name T p2] := by intro _; rfl) : X m Y Γ i (.Call (.Name "isinstance" p) [a, .Name T p2] [] pos) (.d (.bool u)) j := fun _ _ _ A => e_isinst B BT (ha _ _ _ A) hk hn hd1 he he2 hpl
theorem xl_sortedR {ns' : List Int} (B : BI Y "sorted" (.builtin "sorted")) (ha : XR m Y Γ i e (ns.map .int) j) (hp : ns'.Perm ns) (hs : ns'.Pairwise (· ≤ ·)) (he : Se Y e [] := by intro _; rfl) (hpl : Bt Y pos [] := by intro _; rfl) : XL m Y Γ i (.Call (.Name "sorted" p) [e] [] pos) (ns'.map .int) j := fun _ _ _ A => el_sortedR B (ha _ _ _ A) hp hs he hpl
theorem x_repr (B : BI Y "repr" (.builtin "repr")) (ha : X m Y Γ i e (.d (.list ds)) j) (h : Nz 64 1048576 (.list ds)) (he : Se Y e [] := by intro _; rfl) : X m Y Γ i (.Call (.Name "repr" p) [e] [] pos) (.d (.str (PyData.list ds).shown)) j := fun _ _ _ A => e_repr B (ha _ _ _ A) h.show_ h.nd h.sh.2 h.fits he
/-! dicts -/
theorem xd_empty : XD m Y Γ i (.Dict [] [] pos) [] i := fun _ _ _ _ => ed_empty
theorem xd_one {value : Expr} (hk : X m Y Γ i key (.d (.int g)) j) (hv : X m Y Γ j value (.d d) k) : XD m Y Γ i (.Dict [some key] [value] pos) [(.inl g, d)] k := fun _ _ _ A => ed_one (hk _ _ _ A) (hv _ _ _ A)
/-! calls of defs -/
theorem x_call {q : Nat} {st : Stmt} {ps : List Str} {R : List Sv → Sv → Prop} {xs : List Sv} (C : Cl Y.P Y.w Y.K Y.mg Y.base q s st ps (pureSp Y.K R)) (ha : XA m Y Γ i (e :: es) xs j) (hR : R xs y) (hq : q ≤ Y.k := by exact Nat.le_of_ble_eq_true rfl) (hg : Gb Y s := by rfl) (hdb : (s == ("__debug__" : Str)) = false := by decide)
    (he : Se Y e es := by intro _; rfl) (hpl : Bt Y pos es := by intro _; rfl) : X m Y Γ i (.Call (.Name s p) (e :: es) [] pos) y j := fun _ _ _ A => e_callD C (ha _ _ _ A) hR hq hg hdb he hpl
theorem x_callK {q : Nat} {st : Stmt} {ps ks : List Str} {R : List Sv → Sv → Prop} {xs : List Sv} {kws : List Keyword} {ix : List Nat} (C : Cl Y.P Y.w Y.K Y.mg Y.base q s st ps (pureSp Y.K R)) (hb : KwOk s st ps ks ix) (ha : XKw m Y Γ i kws xs j) (hR : R (pickL ix xs) y) (hl : xs.length = ks.length := by rfl) (hq : q ≤ Y.k := by exact Nat.le_of_ble_eq_true rfl) (hg : Gb Y s := by rfl) (hdb : (s == ("__debug__" : Str)) = false := by decide)
    (hall : ∀ a, (backToKw pos (keywordEach kws (Y.X a).env)).all (·.1.isSome) = true := by intro _; rfl) (hks : ∀ a, (backToKw pos (keywordEach kws (Y.X a).env)).filterMap (·.1) = ks := by intro _; rfl)
    (hpl : ∀ a, ((backTo pos (starEach [] (Y.X a).env)).any (·.1) || (backToKw pos (keywordEach kws (Y.X a).env)).any (·.1.isNone)) = false := by intro _; rfl) : X m Y Γ i (.Call (.Name s p) [] kws pos) y j := fun _ _ _ A => e_callKD C hb (ha _ _ _ A) hl hR hq hg hdb hall hks hpl
end
end Xv
set_option Elab.async false
set_option linter.all false
set_option maxRecDepth 100000
set_option maxHeartbeats 4000000
namespace Xv
open PySem PySem.Spec PyProof.Rows L2 Pv
/-! ### targets -/
def XG (m : Mode) (Y : Fam) (Γ : Ctx) (tg : Expr) (x : Sv) (Γ' : Ctx) (ix : List Nat) : Prop := ∀ W0 σ W v, Ag m Y.K W0 Γ σ W → Is Y.K W.F v x →
  ∃ σ' : L2.St, Ag m Y.K W0 Γ' σ' W ∧ σ'.length = σ.length ∧ (∀ k, k ∉ ix → σ'[k]? = σ[k]?) ∧ ∀ Q : L2.St → Hp → Prop, Q σ' W.H → wG Y tg v σ W.H Q
def XGs (m : Mode) (Y : Fam) (Γ : Ctx) (ts : List Expr) (ds : List PD) (Γ' : Ctx) (ix : List Nat) : Prop := ∀ W0 σ W vs, Ag m Y.K W0 Γ σ W → DpAll Y.K W.F vs ds →
  ∃ σ' : L2.St, Ag m Y.K W0 Γ' σ' W ∧ σ'.length = σ.length ∧ (∀ k, k ∉ ix → σ'[k]? = σ[k]?) ∧ ∀ Q : L2.St → Hp → Prop, Q σ' W.H → wGs Y ts vs σ W.H Q
section
variable {m : Mode} {Y : Fam} {Γ Γ1 Γ2 : Ctx} {tg t : Expr} {ts : List Expr} {x : Sv} {d : PD} {ds : List PD} {s : Str} {p : Pos} {ix ix2 : List Nat}
theorem xg_n (n : Nat) (hi : Y.N[n]? = some s := by rfl) (hx : locB Y.sc s = true := by rfl) (hf : ∀ a, (Y.X a).fn s = true ∨ (Y.X a).env.scope.names.lookup s = some .local := by intro _; first | exact .inl rfl | exact .inr rfl) : XG m Y Γ (.Name s p) x (Γ.set n (.v x)) [n] := fun W0 σ W v A h =>
  ⟨σ.set n (some v), A.setv h, List.length_set, fun k hk => by
    rw [List.getElem?_set_ne (fun z => hk (by rw [z]; exact List.mem_singleton.mpr rfl))], fun Q q => g_n n q hi hx hf⟩
theorem xg_tup {q : Nat} (h : XGs m Y Γ ts ds Γ1 ix) (hl : ds.length = ts.length := by rfl) (hn : ∀ a, (assignEach ts (Y.X a).env).length = ts.length := by intro _; rfl) (hst : ∀ a, (assignEach ts (Y.X a).env).findIdx? (·.1) = none := by intro _; rfl) : XG m Y Γ (.Tuple ts q p) (.d (.tuple ds)) Γ1 ix := fun W0 σ W v A hv => by
  obtain ⟨a, vs, e1, e2, e3⟩ := Is.tup hv
  obtain ⟨σ', h1, h0, h2, h3⟩ := h W0 σ W vs A e3
  exact ⟨σ', h1, h0, h2, fun Q q => g_tup e1 (sqT_sub W e2) (h3 Q q) (e3.len.trans hl) hn hst⟩
theorem xgs_nil : XGs m Y Γ [] [] Γ [] := fun W0 σ W vs A h => by
  cases h
  exact ⟨σ, A, rfl, fun _ _ => rfl, fun Q q => gs_nil q⟩
theorem xgs_cons (h1 : XG m Y Γ t (.d d) Γ1 ix) (h2 : XGs m Y Γ1 ts ds Γ2 ix2) (hs : ∀ a, (assignEach (t :: ts) (Y.X a).env).map (·.2) = assign t (Y.X a).env :: (assignEach ts (Y.X a).env).map (·.2) := by intro _; rfl) : XGs m Y Γ (t :: ts) (d :: ds) Γ2 (ix ++ ix2) := fun W0 σ W vs A h => by
  cases h with
  | cons a b =>
    obtain ⟨σ1, q1, q0, q2, q3⟩ := h1 W0 σ W _ A a
    obtain ⟨σ2, r1, r0, r2, r3⟩ := h2 W0 σ1 W _ q1 b
    exact ⟨σ2, r1, r0.trans q0, fun k hk => (r2 k fun z => hk (List.mem_append.mpr (.inr z))).trans (q2 k fun z => hk (List.mem_append.mpr (.inl z))), fun Q q => gs_cons (q3 _ (r3 Q q)) hs⟩
/-- two names -/
theorem xg_2 {s2 : Str} {q : Nat} {p2 p3 : Pos} {d2 : PD} (n n2 : Nat) (hi : Y.N[n]? = some s := by rfl) (hx : locB Y.sc s = true := by rfl) (hf : ∀ a, (Y.X a).fn s = true ∨ (Y.X a).env.scope.names.lookup s = some .local := by intro _; first | exact .inl rfl | exact .inr rfl)
    (hi2 : Y.N[n2]? = some s2 := by rfl) (hx2 : locB Y.sc s2 = true := by rfl) (hf2 : ∀ a, (Y.X a).fn s2 = true ∨ (Y.X a).env.scope.names.lookup s2 = some .local := by intro _; first | exact .inl rfl | exact .inr rfl) : XG m Y Γ (.Tuple [.Name s p, .Name s2 p2] q p3) (.d (.tuple [d, d2])) ((Γ.set n (.v (.d d))).set n2 (.v (.d d2))) [n, n2] :=
  xg_tup (xgs_cons (xg_n n hi hx hf) (xgs_cons (xg_n n2 hi2 hx2 hf2) xgs_nil))
theorem xg_3 {s2 s3 : Str} {q : Nat} {p2 p3 p4 : Pos} {d2 d3 : PD} (n n2 n3 : Nat) (hi : Y.N[n]? = some s := by rfl) (hx : locB Y.sc s = true := by rfl) (hf : ∀ a, (Y.X a).fn s = true ∨ (Y.X a).env.scope.names.lookup s = some .local := by intro _; first | exact .inl rfl | exact .inr rfl)
    (hi2 : Y.N[n2]? = some s2 := by rfl) (hx2 : locB Y.sc s2 = true := by rfl) (hf2 : ∀ a, (Y.X a).fn s2 = true ∨ (Y.X a).env.scope.names.lookup s2 = some .local := by intro _; first | exact .inl rfl | exact .inr rfl)
    (hi3 : Y.N[n3]? = some s3 := by rfl) (hx3 : locB Y.sc s3 = true := by rfl) (hf3 : ∀ a, (Y.X a).fn s3 = true ∨ (Y.X a).env.scope.names.lookup s3 = some .local := by intro _; first | exact .inl rfl | exact .inr rfl) : XG m Y Γ (.Tuple [.Name s p, .Name s2 p2, .Name s3 p3] q p4) (.d (.tuple [d, d2, d3])) (((Γ.set n (.v (.d d))).set n2 (.v (.d d2))).set n3 (.v (.d d3))) [n, n2, n3] :=
  xg_tup (xgs_cons (xg_n n hi hx hf) (xgs_cons (xg_n n2 hi2 hx2 hf2) (xgs_cons (xg_n n3 hi3 hx3 hf3) xgs_nil)))
end
/-! ### wiped slots -/
theorem wipe_in {σ : L2.St} {k : Nat} : ∀ {vs : List Nat}, k ∈ vs → k < σ.length → (L2.wipe σ vs)[k]? = some none
  | v :: vs, h, hk => by
    unfold L2.wipe
    by_cases e : v = k
    · subst e
      rw [List.getElem?_set_self (by rw [L2.wipe_length]; exact hk)]
    · rw [List.getElem?_set_ne e]
      exact wipe_in ((List.mem_cons.mp h).resolve_left fun z => e z.symm) hk
theorem wipe_out {σ : L2.St} {k : Nat} : ∀ {vs : List Nat}, k ∉ vs → (L2.wipe σ vs)[k]? = σ[k]?
  | [], _ => rfl
  | v :: vs, h => by
    unfold L2.wipe
    rw [List.getElem?_set_ne fun z => h (by rw [z]; exact List.mem_cons_self)]
    exact wipe_out fun z => h (List.mem_cons_of_mem _ z)
theorem wipe_eq {σ σ2 : L2.St} {vs : List Nat} (h : ∀ k, k ∉ vs → σ2[k]? = (L2.wipe σ vs)[k]?) (hl : σ2.length = σ.length) : L2.wipe σ2 vs = L2.wipe σ vs := by
  apply List.ext_getElem?
  intro k
  by_cases e : k ∈ vs
  · by_cases hk : k < σ.length
    · rw [wipe_in e hk, wipe_in e (by rw [hl]; exact hk)]
    · rw [List.getElem?_eq_none (by rw [L2.wipe_length]; omega), List.getElem?_eq_none (by rw [L2.wipe_length]; omega)]
  · rw [wipe_out e, h k e]
/-! ### comprehensions: the resource may change from turn to turn -/
def TurnS (m : Mode) (B : Fam) (tg elt : Expr) (ifs : List Expr) (vs : List Nat) (σ : L2.St) (x : V) (T : Wd) (j j' : m.ι) (b : Bool) (d : PD) : Prop :=
  ∃ (σ2 : L2.St) (j2 : m.ι), (∀ Q : L2.St → Hp → Prop, Q σ2 T.H → wG B tg x (wipe σ vs) T.H Q) ∧ wipe σ2 vs = wipe σ vs ∧ ETs m B σ2 T j ifs b j2 ∧ (b = true → E m B σ2 T j2 elt (.d d) j') ∧ (b = false → j2 = j')
section
variable {m : Mode} {Y : Fam} {σ : L2.St} {W : Wd} {i : m.ι} {tg iter : Expr}
theorem lcS_run {elt : Expr} {ifs : List Expr} {scope : Scope} {vs : List Nat} {it : Nat → V → Wd → Prop} (N : Nat) (J : Nat → m.ι) (pr : Nat → Bool) (g : Nat → PD) (hi : EI m Y σ W i tg iter N it (J 0)) (hl : N ≤ 100000)
    (ht : ∀ k, k < N → ∀ x T, Le m.M W T → m.R (J k) T → it k x T → TurnS m (Y.blk scope) tg elt ifs vs σ x T (J k) (J (k + 1)) (pr k) (g k)) :
    ∀ U, Le m.M W U → m.R i U → ∀ Q : VK, (∀ v T, Le m.M U T → m.R (J N) T → (∃ p us, v = V.ref p ∧ U.H p = none ∧ T.F p = none ∧ T.H p = some (.lst us) ∧ DpAll Y.K T.F us (((List.range N).filter pr).map g)) → Q v T.H) →
      tLc (wI Y tg iter) (wG (Y.blk scope) tg) (wTs (Y.blk scope) ifs) (wE (Y.blk scope) elt) vs σ U.H Q := by
  intro U h1 r Q q
  refine hi U h1 r _ fun JJ T0 l0 r0 ok => ?_
  intro C hC
  have l00 : Le M0 T0 (T0.own C (.lst []) hC) := Le.own hC
  refine ⟨fun n q H => q = N - n ∧ n ≤ N ∧ ∃ T : Wd, T.H = H ∧ Le m.M T0 T ∧ m.R (J n) T ∧ T.F C = none ∧ ∃ us, T.H C = some (.lst us) ∧ DpAll Y.K T.F us (((List.range n).filter pr).map g), ⟨N, by simp, Nat.zero_le _, T0.own C (.lst []) hC, rfl, Le.own hC, m.le0 r0 l00, T0.fnone hC, [], upd_same, by simpa using DpAll.nil⟩, ?_⟩
  rintro n q' H ⟨rfl, hn, T, rfl, l1, r1, f1, us, hu, du⟩
  by_cases hlt : n < N
  · refine .inr ⟨(ok.2 n hlt T l1.fl).1, fun H' => ∃ T' : Wd, T'.H = H' ∧ Le m.M T0 T' ∧ m.R (J (n + 1)) T' ∧ T'.F C = none ∧ ∃ us, T'.H C = some (.lst us) ∧ DpAll Y.K T'.F us (((List.range (n + 1)).filter pr).map g), fun H' hH => ⟨N - (n + 1), by omega, rfl, hlt, hH⟩, fun x H' hy => ?_⟩
    obtain ⟨T1, rfl, l2, hit⟩ := (ok.2 n hlt T l1.fl).2 x H' hy
    have hCm : ¬ m.M C := fun z => (m.al (J 0) T0 r0 C z).1 hC
    have c1 : T1.H C = some (.lst us) := l2.h C _ (fun z => z) hu
    have f2 : T1.F C = none := l2.n C f1 (by rw [hu]; exact fun z => nomatch z)
    have r2 : m.R (J n) T1 := m.le0 r1 l2
    obtain ⟨σ2, j2, tg1, tg2, tg3, tg4, tg5⟩ := ht n hlt x T1 (((h1.trans l0).trans l1).trans l2.of0) r2 hit
    refine tg1 _ ⟨tg2, ?_⟩
    refine tg3 T1 (Le.refl T1) r2 _ fun T2 l3 r3 => ?_
    have c2 : T2.H C = some (.lst us) := l3.h C _ hCm c1
    have f3 : T2.F C = none := l3.n C f2 (by rw [c1]; exact fun z => nomatch z)
    have l4 : Le m.M T0 T2 := (l1.trans l2.of0).trans l3
    cases hb : pr n with
    | false =>
      show ∃ T' : Wd, T'.H = T2.H ∧ Le m.M T0 T' ∧ m.R (J (n + 1)) T' ∧ T'.F C = none ∧ ∃ us, T'.H C = some (.lst us) ∧ DpAll Y.K T'.F us (((List.range (n + 1)).filter pr).map g)
      refine ⟨T2, rfl, l4, (tg5 hb) ▸ r3, f3, us, c2, ?_⟩
      rw [List.range_succ, List.filter_append, List.filter_cons, hb]
      simpa using (du.mono l2.f).mono l3.f
    | true =>
      show wE (Y.blk scope) elt σ2 T2.H fun y H4 => ∃ acc, H4 C = some (.lst acc) ∧ acc.length < sizeLine ∧ ∃ T' : Wd, T'.H = upd H4 C (.lst (acc ++ [y])) ∧ Le m.M T0 T' ∧ m.R (J (n + 1)) T' ∧ T'.F C = none ∧ ∃ us, T'.H C = some (.lst us) ∧ DpAll Y.K T'.F us (((List.range (n + 1)).filter pr).map g)
      refine tg4 hb T2 l3 r3 _ fun y T3 l5 r4 hy => ?_
      have c3 : T3.H C = some (.lst us) := l5.h C _ hCm c2
      have f4 : T3.F C = none := l5.n C f3 (by rw [c2]; exact fun z => nomatch z)
      have dl : us.length ≤ n := by
        rw [du.len, List.length_map]
        exact Nat.le_trans (List.length_filter_le _ _) (by rw [List.length_range]; exact Nat.le_refl _)
      refine ⟨us, c3, Evl.sz_lt (by omega), T3.put C _ f4, rfl, ?_, m.pt (J (n + 1)) T3 C _ _ f4 r4 hCm c3 rfl, f4, us ++ [y], upd_same, ?_⟩
      · have l6 : Le m.M T0 T3 := l4.trans l5
        exact ⟨l6.f, fun a o hm e => by
          show upd T3.H C _ a = some o
          rw [upd_ne (ne_of_none e hC)]
          exact l6.h a o hm e, l6.n, fun a ka => upd_some_ne (l6.k a ka)⟩
      · rw [List.range_succ, List.filter_append, List.filter_cons, hb, List.map_append]
        exact (((du.mono l2.f).mono l3.f).mono l5.f).app (by simpa using DpAll.one (show Dp Y.K T3.F y (g n) from hy))
  · have e : n = N := by omega
    subst e
    exact .inl ⟨ok.1 T l1.fl, q (.ref C) T (l0.trans l1) r1 ⟨C, us, rfl, l0.back hC, f1, hu, du⟩⟩
end
theorem range_filter_map {α : Type} (xs : List α) (pr : α → Bool) (g : α → PD) (pr' : Nat → Bool) (g' : Nat → PD) (h1 : ∀ k a, xs[k]? = some a → pr' k = pr a) (h2 : ∀ k a, xs[k]? = some a → g' k = g a) : ((List.range xs.length).filter pr').map g' = (xs.filter pr).map g := by
  have key : ∀ n, n ≤ xs.length → ((List.range n).filter pr').map g' = ((xs.take n).filter pr).map g := by
    intro n
    induction n with
    | zero => intro _; simp
    | succ n ih =>
      intro hn
      have ha : xs[n]? = some xs[n] := by simp [hn]
      have tk : xs.take (n + 1) = xs.take n ++ [xs[n]] := by
        rw [List.take_add_one, ha] <;> rfl
      rw [List.range_succ, tk, List.filter_append, List.filter_append, List.map_append, List.map_append, ih (by omega)]
      congr 1
      rw [List.filter_cons, List.filter_cons, h1 n _ ha]
      cases pr xs[n] with
      | true => simp [h2 n _ ha]
      | false => simp
  have := key xs.length (Nat.le_refl _)
  rwa [List.take_length] at this
section
variable {m : Mode} {Y : Fam} {Γ : Ctx} {i j : m.ι} {tg iter elt : Expr} {scope : Scope} {pos : Pos} {α : Type}
/-- one turn in the block -/
def XTurn (m : Mode) (Y : Fam) (Γ : Ctx) (scope : Scope) (own : List (Str × Nat)) (tg elt : Expr) (ifs : List Expr) (x : Sv) (b : Bool) (d : PD) (j j' : m.ι) : Prop :=
  ∃ (Γ2 : Ctx) (ix : List Nat) (j2 : m.ι), XG m (Y.blk scope) (wipeC Γ (own.map (·.2))) tg x Γ2 ix ∧ (∀ k ∈ ix, k ∈ own.map (·.2)) ∧ XS m (Y.blk scope) Γ2 j ifs b j2 ∧ (b = true → X m (Y.blk scope) Γ2 j2 elt (.d d) j') ∧ (b = false → j2 = j')
theorem xl_run {ifs : List Expr} (own : List (Str × Nat)) {xs : List α} {enc : α → PD} (J : Nat → m.ι) (pr : Nat → Bool) (g : Nat → PD) (hi : XI m Y Γ i tg iter xs enc (J 0))
    (ht : ∀ k a, xs[k]? = some a → XTurn m Y Γ scope own tg elt ifs (.d (enc a)) (pr k) (g k) (J k) (J (k + 1))) :
    ∀ W0 σ W, Ag m Y.K W0 Γ σ W → ∀ k, k < xs.length → ∀ x T, Le m.M W T → m.R (J k) T → itE Y.K xs enc k x T → TurnS m (Y.blk scope) tg elt ifs (own.map (·.2)) σ x T (J k) (J (k + 1)) (pr k) (g k) := by
  intro W0 σ W A k hk x T l r hx
  have ha : xs[k]? = some xs[k] := by simp [hk]
  obtain ⟨Γ2, ix, j2, g1, g2, g3, g4, g5⟩ := ht k _ ha
  have A1 := (A.go l).wipe (own.map (·.2))
  obtain ⟨σ2, A2, len, ag, q⟩ := g1 W0 _ T x A1 (show Dp Y.K T.F x (enc xs[k]) from hx _ ha)
  exact ⟨σ2, j2, q, wipe_eq (fun n hn => ag n fun z => hn (g2 n z)) (len.trans (L2.wipe_length σ _)), g3 W0 σ2 T A2, fun hb => g4 hb W0 σ2 T A2, g5⟩
theorem xl_lcS {ifs : List Expr} (own : List (Str × Nat)) {xs : List α} {enc : α → PD} (J : Nat → m.ι) (pr : Nat → Bool) (g : Nat → PD) (hi : XI m Y Γ i tg iter xs enc (J 0)) (hl : xs.length ≤ 100000)
    (ht : ∀ k a, xs[k]? = some a → XTurn m Y Γ scope own tg elt ifs (.d (enc a)) (pr k) (g k) (J k) (J (k + 1))) (ok : blkB Y.N Y.sc scope own = true := by rfl) (hs : Fd' Y iter := by intro _ _; rfl) :
    XL m Y Γ i (.ListComp elt [⟨tg, iter, ifs, 0⟩] scope pos) (((List.range xs.length).filter pr).map g) (J xs.length) := fun W0 σ W A U h1 r Q q =>
  ⟨tLc (wI Y tg iter) (wG (Y.blk scope) tg) (wTs (Y.blk scope) ifs) (wE (Y.blk scope) elt) (own.map (·.2)), fun a => pe_lc (Y.hc a) (by rw [Y.hN]; exact Y.nd) (wI_ok a) (by rw [Y.hN, Y.hsc]; exact blk_of ok) (fun s H C cl fp => wG_ok (Y := Y.blk scope) (a, s, H, C, cl, fp)) (fun s H C cl fp => wTs_ok (Y := Y.blk scope) (a, s, H, C, cl, fp)) (fun s H C cl fp => wE_ok (Y := Y.blk scope) (a, s, H, C, cl, fp)) (hs a),
    lcS_run xs.length J pr g (hi W0 σ W A) hl (xl_run own J pr g hi ht W0 σ W A) U h1 r Q q⟩
/-- the usual one: tests, no change of the resource -/
theorem xl_lc {ifs : List Expr} (own : List (Str × Nat)) {xs : List α} {enc : α → PD} (pr : α → Bool) (g : α → PD) (hi : XI m Y Γ i tg iter xs enc j) (hl : xs.length ≤ 100000)
    (ht : ∀ a ∈ xs, XTurn m Y Γ scope own tg elt ifs (.d (enc a)) (pr a) (g a) j j) (ok : blkB Y.N Y.sc scope own = true := by rfl) (hs : Fd' Y iter := by intro _ _; rfl) :
    XL m Y Γ i (.ListComp elt [⟨tg, iter, ifs, 0⟩] scope pos) ((xs.filter pr).map g) j := by
  have h := xl_lcS (m := m) (Y := Y) (Γ := Γ) (i := i) (tg := tg) (iter := iter) (elt := elt) (scope := scope) (pos := pos) (ifs := ifs) own (xs := xs) (enc := enc) (fun _ => j) (fun k => match xs[k]? with | some a => pr a | none => false) (fun k => match xs[k]? with | some a => g a | none => .none) hi hl
    (fun k a ha => by
      show XTurn m Y Γ scope own tg elt ifs (.d (enc a)) (match xs[k]? with | some a => pr a | none => false) (match xs[k]? with | some a => g a | none => .none) j j
      rw [ha]
      exact ht a (List.mem_of_getElem? ha)) ok hs
  rw [range_filter_map xs pr g _ _ (fun k a ha => by rw [ha]) (fun k a ha => by rw [ha])] at h
  exact h
theorem xs_nil {Y : Fam} {Γ : Ctx} : XS m Y Γ i [] true i := fun _ _ _ _ => ets_nil
theorem xs_one {Y : Fam} {Γ : Ctx} {c : Expr} {u : Bool} (h : XT m Y Γ i c u j) : XS m Y Γ i [c] u j := fun _ _ _ A => ets_one (h _ _ _ A)
theorem turn_m {Y : Fam} {Γ Γ2 : Ctx} {own : List (Str × Nat)} {x : Sv} {d : PD} {j' : m.ι} {ix : List Nat} (h1 : XG m (Y.blk scope) (wipeC Γ (own.map (·.2))) tg x Γ2 ix) (h2 : X m (Y.blk scope) Γ2 j elt (.d d) j') (hix : ∀ k ∈ ix, k ∈ own.map (·.2) := by intro k hk; exact hk) : XTurn m Y Γ scope own tg elt [] x true d j j' :=
  ⟨Γ2, ix, j, h1, hix, xs_nil, fun _ => h2, fun z => nomatch z⟩
theorem turn_1 {Y : Fam} {Γ Γ2 : Ctx} {own : List (Str × Nat)} {x : Sv} {d : PD} {ix : List Nat} {c : Expr} {b : Bool} (h1 : XG m (Y.blk scope) (wipeC Γ (own.map (·.2))) tg x Γ2 ix) (h2 : XT m (Y.blk scope) Γ2 j c b j) (h3 : b = true → X m (Y.blk scope) Γ2 j elt (.d d) j) (hix : ∀ k ∈ ix, k ∈ own.map (·.2) := by intro k hk; exact hk) : XTurn m Y Γ scope own tg elt [c] x b d j j :=
  ⟨Γ2, ix, j, h1, hix, xs_one h2, h3, fun _ => rfl⟩
/-- no tests -/
theorem xl_lcM (own : List (Str × Nat)) {xs : List α} {enc : α → PD} (g : α → PD) (hi : XI m Y Γ i tg iter xs enc j) (hl : xs.length ≤ 100000)
    (ht : ∀ a ∈ xs, XTurn m Y Γ scope own tg elt [] (.d (enc a)) true (g a) j j) (ok : blkB Y.N Y.sc scope own = true := by rfl) (hs : Fd' Y iter := by intro _ _; rfl) :
    XL m Y Γ i (.ListComp elt [⟨tg, iter, [], 0⟩] scope pos) (xs.map g) j := by
  have h := xl_lc (m := m) (Y := Y) (Γ := Γ) (i := i) (tg := tg) (iter := iter) (elt := elt) (scope := scope) (pos := pos) (ifs := []) own (xs := xs) (enc := enc) (fun _ => true) g hi hl ht ok hs
  have e : xs.filter (fun _ => true) = xs := List.filter_eq_self.mpr fun _ _ => rfl
  rwa [e] at h
end
/-! ### what is walked -/
section
variable {m : Mode} {Y : Fam} {Γ : Ctx} {i j k l : m.ι} {tg e a b c : Expr} {p pos : Pos} {α β : Type}
theorem i_tup {xs : List α} {enc : α → PD} (h : X m Y Γ i e (.d (.tuple (xs.map enc))) j) : XI m Y Γ i tg e xs enc j := fun _ _ _ A => ei_tupE (h _ _ _ A)
theorem i_lst {xs : List α} {enc : α → PD} (h : X m Y Γ i e (.d (.list (xs.map enc))) j) : XI m Y Γ i tg e xs enc j := fun _ _ _ A => ei_lstE (h _ _ _ A)
theorem i_rg1 {q : Int} (B : BI Y "range" (.type "range")) (ha : X m Y Γ i a (.d (.int q)) j) (h1 : -(2 ^ 62) ≤ q ∧ q < 2 ^ 62) (hs : ∀ c, starEach [a] (Y.X c).env = [(false, eval a (Y.X c).env)] := by intro _; rfl) : XI m Y Γ i tg (.Call (.Name "range" p) [a] [] pos) (rgI 0 q.toNat) .int j := fun _ _ _ A => ei_rg1E B (ha _ _ _ A) h1 hs
theorem i_rg2 {q w : Int} (B : BI Y "range" (.type "range")) (ha : X m Y Γ i a (.d (.int q)) j) (hb : X m Y Γ j b (.d (.int w)) k) (h1 : -(2 ^ 62) ≤ q ∧ q < 2 ^ 62 ∧ -(2 ^ 62) ≤ w ∧ w < 2 ^ 62)
    (hs : ∀ c, starEach [a, b] (Y.X c).env = [(false, eval a (Y.X c).env), (false, eval b (Y.X c).env)] := by intro _; rfl) (hs2 : ∀ c, starEach [b] (Y.X c).env = [(false, eval b (Y.X c).env)] := by intro _; rfl) : XI m Y Γ i tg (.Call (.Name "range" p) [a, b] [] pos) (rgI q (w - q).toNat) .int k := fun _ _ _ A => ei_rg2E B (ha _ _ _ A) (hb _ _ _ A) h1 hs hs2
theorem i_zip {elts : List Expr} {q : Nat} {tp : Pos} {xs : List α} {ys : List β} {f : α → PD} {g : β → PD} (B : BI Y "zip" (.type "zip")) (ha : X m Y Γ i a (.d (.tuple (xs.map f))) j) (hb : X m Y Γ j b (.d (.tuple (ys.map g))) k)
    (hs : Se Y a [b] := by intro _; rfl) (hs2 : Se Y b [] := by intro _; rfl) (hpl : Bt Y pos [b] := by intro _; rfl) : XI m Y Γ i (.Tuple elts q tp) (.Call (.Name "zip" p) [a, b] [] pos) (xs.zip ys) (fun r => .tuple [f r.1, g r.2]) k := fun _ _ _ A => ei_zipE B (ha _ _ _ A) (hb _ _ _ A) hs hs2 hpl
theorem i_enumL {elts : List Expr} {q : Nat} {tp : Pos} {xs : List α} {f : α → PD} (B : BI Y "enumerate" (.type "enumerate")) (ha : X m Y Γ i a (.d (.list (xs.map f))) j) (hs : ∀ c, starEach [a] (Y.X c).env = [(false, eval a (Y.X c).env)] := by intro _; rfl) : XI m Y Γ i (.Tuple elts q tp) (.Call (.Name "enumerate" p) [a] [] pos) xs.zipIdx (fun r => .tuple [.int (r.2 : Int), f r.1]) j := fun _ _ _ A => ei_enumLE B (ha _ _ _ A) hs
theorem i_enumT {elts : List Expr} {q : Nat} {tp : Pos} {xs : List α} {f : α → PD} (B : BI Y "enumerate" (.type "enumerate")) (ha : X m Y Γ i a (.d (.tuple (xs.map f))) j) (hs : ∀ c, starEach [a] (Y.X c).env = [(false, eval a (Y.X c).env)] := by intro _; rfl) : XI m Y Γ i (.Tuple elts q tp) (.Call (.Name "enumerate" p) [a] [] pos) xs.zipIdx (fun r => .tuple [.int (r.2 : Int), f r.1]) j := fun _ _ _ A => ei_enumTE B (ha _ _ _ A) hs
end
end Xv
set_option Elab.async false
set_option linter.all false
set_option maxRecDepth 100000
set_option maxHeartbeats 4000000
namespace Xv
open PySem PySem.Spec PyProof.Rows L2 Pv
/-! ### statements: how they end -/
inductive Out (ι : Type) where
  | nx (Γ : Ctx) (j : ι)
  | bk (Γ : Ctx) (j : ι)
  | ct (Γ : Ctx) (j : ι)
  | rt (x : Sv) (j : ι)
def Hd (m : Mode) (Y : Fam) (W0 W : Wd) (D : Ends) : Out m.ι → Prop
  | .nx Γ j => ∀ σ' W', Fl W W' → Ag m Y.K W0 Γ σ' W' → m.R j W' → D.nx σ' W'.H
  | .bk Γ j => ∀ σ' W', Fl W W' → Ag m Y.K W0 Γ σ' W' → m.R j W' → D.bk σ' W'.H
  | .ct Γ j => ∀ σ' W', Fl W W' → Ag m Y.K W0 Γ σ' W' → m.R j W' → D.ct σ' W'.H
  | .rt x j => ∀ v W', Fl W W' → Le m.M W0 W' → m.R j W' → Is Y.K W'.F v x → D.rt v W'.H
theorem Hd.fl {m : Mode} {Y : Fam} {W0 W T : Wd} {D : Ends} {o : Out m.ι} (h : Hd m Y W0 W D o) (f : Fl W T) : Hd m Y W0 T D o := by
  cases o with
  | nx Γ j => exact fun σ' W' f2 => h σ' W' (f.trans f2)
  | bk Γ j => exact fun σ' W' f2 => h σ' W' (f.trans f2)
  | ct Γ j => exact fun σ' W' f2 => h σ' W' (f.trans f2)
  | rt x j => exact fun v W' f2 => h v W' (f.trans f2)
def S (m : Mode) (Y : Fam) (Γ : Ctx) (i : m.ι) (ss : List Stmt) (Φ : Out m.ι → Prop) : Prop := ∀ W0 σ W D, Ag m Y.K W0 Γ σ W → m.R i W → (∀ o, Φ o → Hd m Y W0 W D o) → wSs Y ss D σ W.H
/-- then the rest -/
def thn (m : Mode) (Y : Fam) (rest : List Stmt) (Φ : Out m.ι → Prop) : Out m.ι → Prop
  | .nx Γ j => S m Y Γ j rest Φ
  | o => Φ o
section
variable {m : Mode} {Y : Fam} {Γ Γ1 : Ctx} {i j k : m.ι} {e a b c key : Expr} {es : List Expr} {rest body els : List Stmt} {pos p p' ap cp : Pos} {x y : Sv} {d d' : PD} {ds es' : List PD} {kvs : List (Key × PD)} {u : Bool} {s : Str} {Φ Ψ : Out m.ι → Prop}
theorem S.imp (h : S m Y Γ i rest Φ) (f : ∀ o, Φ o → Ψ o) : S m Y Γ i rest Ψ := fun W0 σ W D A r q => h W0 σ W D A r fun o z => q o (f o z)
theorem S.ctx (h : S m Y Γ i rest Φ) (e : Γ = Γ1) : S m Y Γ1 i rest Φ := e ▸ h
theorem q_nil (h : Φ (.nx Γ i)) : S m Y Γ i [] Φ := fun W0 σ W D A r q => s_nil (q _ h σ W (Fl.refl W) A r)
theorem q_ret (he : X m Y Γ i e x j) (h : Φ (.rt x j)) : S m Y Γ i (.Return (some e) p :: rest) Φ := fun W0 σ W D A r q => s_ret (he _ _ _ A) r fun v T l r' hv => q _ h v T l.fl (A.le.trans l) r' hv
theorem q_break (h : Φ (.bk Γ i)) : S m Y Γ i (.Break p :: rest) Φ := fun W0 σ W D A r q => s_break (q _ h σ W (Fl.refl W) A r)
theorem q_cont (h : Φ (.ct Γ i)) : S m Y Γ i (.Continue p :: rest) Φ := fun W0 σ W D A r q => s_cont (q _ h σ W (Fl.refl W) A r)
theorem Hds.fl {W0 W T : Wd} {D : Ends} (q : ∀ o, Φ o → Hd m Y W0 W D o) (f : Fl W T) : ∀ o, Φ o → Hd m Y W0 T D o := fun o h => (q o h).fl f
theorem q_set (n : Nat) (he : X m Y Γ i e x j) (k : S m Y (Γ.set n (.v x)) j rest Φ) (hi : Y.N[n]? = some s := by rfl) (hx : locB Y.sc s = true := by rfl)
    (hsw : ∀ a, swapsWith e (some (.Name s p')) p.line (Y.X a).env = pure false := by intro _; rfl) (hf : ∀ a, (Y.X a).fn s = true ∨ (Y.X a).env.scope.names.lookup s = some .local := by intro _; first | exact .inl rfl | exact .inr rfl) : S m Y Γ i (.Assign [.Name s p'] e p :: rest) Φ := fun W0 σ W D A r q =>
  s_st n (he _ _ _ A) r (fun v T l r' hv => k W0 _ T D ((A.go l).setv hv) r' (Hds.fl q l.fl)) hi hx hsw hf
/-- a new list, owned -/
theorem q_setl (n : Nat) (he : XL m Y Γ i e ds j) (k : S m Y (Γ.set n (.l ds)) j rest Φ) (hi : Y.N[n]? = some s := by rfl) (hx : locB Y.sc s = true := by rfl)
    (hsw : ∀ a, swapsWith e (some (.Name s p')) p.line (Y.X a).env = pure false := by intro _; rfl) (hf : ∀ a, (Y.X a).fn s = true ∨ (Y.X a).env.scope.names.lookup s = some .local := by intro _; first | exact .inl rfl | exact .inr rfl) : S m Y Γ i (.Assign [.Name s p'] e p :: rest) Φ := fun W0 σ W D A r q =>
  s_stG n (he _ _ _ A) r (fun v T l r' ⟨qa, us, e1, e2, e3, e4, e5⟩ => by
    subst e1
    exact k W0 _ T D (A.setl l e2 (m.nm r e2) ⟨e3, us, e4, e5⟩) r' (Hds.fl q l.fl)) hi hx hsw hf
theorem q_setd (n : Nat) (he : XD m Y Γ i e kvs j) (k : S m Y (Γ.set n (.dk kvs)) j rest Φ) (hi : Y.N[n]? = some s := by rfl) (hx : locB Y.sc s = true := by rfl)
    (hsw : ∀ a, swapsWith e (some (.Name s p')) p.line (Y.X a).env = pure false := by intro _; rfl) (hf : ∀ a, (Y.X a).fn s = true ∨ (Y.X a).env.scope.names.lookup s = some .local := by intro _; first | exact .inl rfl | exact .inr rfl) : S m Y Γ i (.Assign [.Name s p'] e p :: rest) Φ := fun W0 σ W D A r q =>
  s_stG n (he _ _ _ A) r (fun v T l r' ⟨qa, us, e1, e2, e3, e4, e5⟩ => by
    subst e1
    exact k W0 _ T D (A.setd l e2 (m.nm r e2) ⟨e3, us, e4, e5⟩) r' (Hds.fl q l.fl)) hi hx hsw hf
/-- target = e -/
theorem q_asg {tg : Expr} {ix : List Nat} (he : X m Y Γ i e x j) (hg : XG m Y Γ tg x Γ1 ix) (k : S m Y Γ1 j rest Φ)
    (hs : ∀ a, swapsWithSole [tg] e p.line (Y.X a).env = pure false := by intro _; rfl) (hw : ∀ a, swappedStores [tg] e (Y.X a).env = pure none := by intro _; rfl)
    (h1 : ∀ a, (assignEach [tg] (Y.X a).env).map (·.2) = [assign tg (Y.X a).env] := by intro _; rfl) : S m Y Γ i (.Assign [tg] e p :: rest) Φ := fun W0 σ W D A r q =>
  s_asg (he _ _ _ A) r (fun v T l r' hv => by
    obtain ⟨σ', A', _, _, z⟩ := hg W0 σ T v (A.go l) hv
    exact z _ (k W0 σ' T D A' r' (Hds.fl q l.fl))) hs hw h1
/-- a, b = e1, e2 -/
theorem q_par2 {s1 s2 : Str} {q1 q2 : Nat} {px py pt pt2 : Pos} (n1 n2 : Nat) (ha : XA m Y Γ i [a, b] [x, y] j) (k : S m Y ((Γ.set n1 (.v x)).set n2 (.v y)) j rest Φ) (hi : Y.N[n1]? = some s1 := by rfl) (hj : Y.N[n2]? = some s2 := by rfl) (hij : n1 ≠ n2 := by decide)
    (hx : Y.sc.names.lookup s1 = some .local := by rfl) (hy : Y.sc.names.lookup s2 = some .local := by rfl)
    (hw : ∀ c, swappedStores [.Tuple [.Name s1 px, .Name s2 py] q1 pt] (.Tuple [a, b] q2 pt2) (Y.X c).env = pure (some [s1, s2]) := by intro _; rfl)
    (hs : ∀ c, swapsWithSole [.Tuple [.Name s1 px, .Name s2 py] q1 pt] (.Tuple [a, b] q2 pt2) p.line (Y.X c).env = pure false := by intro _; rfl) :
    S m Y Γ i (.Assign [.Tuple [.Name s1 px, .Name s2 py] q1 pt] (.Tuple [a, b] q2 pt2) p :: rest) Φ := fun W0 σ W D A r q =>
  s_par2 (xs := []) (ha _ _ _ A) r hi hj hij hx hy (fun v1 v2 T l r' h1 h2 => k W0 _ T D (((A.go l).setv h1).setv h2) r' (Hds.fl q l.fl)) hw hs
theorem Hd.thn {W0 W : Wd} {D : Ends} (q : ∀ o, Φ o → Hd m Y W0 W D o) : ∀ o, thn m Y rest Φ o → Hd m Y W0 W { D with nx := fun σ' H' => wSs Y rest D σ' H' } o := fun o h => by
  cases o with
  | nx Γ j => exact fun σ' W' f A r => h W0 σ' W' D A r (Hds.fl q f)
  | bk Γ j => exact q _ h
  | ct Γ j => exact q _ h
  | rt x j => exact q _ h
theorem q_if (ht : XT m Y Γ i c u j) (h1 : u = true → S m Y Γ j body (thn m Y rest Φ)) (h2 : u = false → S m Y Γ j els (thn m Y rest Φ)) : S m Y Γ i (.If c body els p :: rest) Φ := fun W0 σ W D A r q =>
  s_if (ht _ _ _ A) r (fun hu T l r' => h1 hu W0 σ T _ (A.go l) r' (Hds.fl (Hd.thn q) l.fl)) (fun hu T l r' => h2 hu W0 σ T _ (A.go l) r' (Hds.fl (Hd.thn q) l.fl))
theorem q_when (ht : XT m Y Γ i c u j) (h1 : u = true → S m Y Γ j body (thn m Y rest Φ)) (h2 : u = false → S m Y Γ j rest Φ) : S m Y Γ i (.If c body [] p :: rest) Φ := fun W0 σ W D A r q =>
  s_when (ht _ _ _ A) r (fun hu T l r' => h1 hu W0 σ T _ (A.go l) r' (Hds.fl (Hd.thn q) l.fl)) (fun hu T l r' => h2 hu W0 σ T _ (A.go l) r' (Hds.fl q l.fl))
/-- an own list frozen -/
theorem q_ice (n : Nat) (hn : Γ[n]? = some (.l ds)) (k : S m Y (Γ.set n (.v (.d (.list ds)))) i rest Φ) : S m Y Γ i rest Φ := fun W0 σ W D A r q => by
  obtain ⟨qa, e1, ⟨f, us, h1, h2⟩, h3, h4⟩ := A.ok n _ hn
  have up : ∀ a o, W.F a = some o → upd W.F qa (.lst us) a = some o := upd_none f
  have hu : Is Y.K (W.ice qa _ h1).F (.ref qa) (.d (.list ds)) := Dp.lst (SqL.of upd_same) (h2.mono up)
  have hl : σ.set n (some (.ref qa)) = σ := by
    apply List.ext_getElem?
    intro k
    by_cases e : k = n
    · subst e
      rw [List.getElem?_set_self (List.getElem?_eq_some_iff.mp e1).1, e1]
    · rw [List.getElem?_set_ne (fun z => e z.symm)]
  have A' : Ag m Y.K W0 (Γ.set n (.v (.d (.list ds)))) σ (W.ice qa _ h1) := by
    refine ⟨by rw [List.length_set]; exact A.len, A.le.ice h3 h1 f, fun k s e => ?_, fun k k' t t' e e' ht ht' eq => ?_⟩
    · rcases get_set e with ⟨rfl, rfl⟩ | ⟨ne, e⟩
      · exact ⟨_, e1, hu⟩
      · have ok := A.ok k s e
        cases s with
        | no => trivial
        | v x =>
          obtain ⟨v, e2, h⟩ := ok
          exact ⟨v, e2, h.mono up⟩
        | at_ a => exact ok
        | l ds2 =>
          obtain ⟨q2, e2, ⟨f2, us2, g1, g2⟩, g3, g4⟩ := ok
          have hne : q2 ≠ qa := fun z => ne (A.sep k n _ _ e hn rfl rfl (by rw [e2, e1, z]))
          exact ⟨q2, e2, ⟨by show upd W.F qa _ q2 = none; rw [upd_ne hne]; exact f2, us2, g1, g2.mono up⟩, g3, g4⟩
        | dk kvs =>
          obtain ⟨q2, e2, ⟨f2, us2, g1, g2⟩, g3, g4⟩ := ok
          have hne : q2 ≠ qa := fun z => ne (A.sep k n _ _ e hn rfl rfl (by rw [e2, e1, z]))
          exact ⟨q2, e2, ⟨by show upd W.F qa _ q2 = none; rw [upd_ne hne]; exact f2, us2, g1, g2.mono up⟩, g3, g4⟩
    · rcases get_set e with ⟨_, rfl⟩ | ⟨ne, e⟩
      · cases ht
      · rcases get_set e' with ⟨_, rfl⟩ | ⟨ne', e'⟩
        · cases ht'
        · exact A.sep k k' t t' e e' ht ht' eq
  have r' : m.R i (W.ice qa _ h1) := m.st i W _ r (fun _ _ z => z) fun a z => by
    have hne : a ≠ qa := fun w => h4 (w ▸ z)
    show upd W.F qa _ a = none
    rw [upd_ne hne]
    exact (m.al i W r a z).2
  exact k W0 σ (W.ice qa _ h1) D A' r' (Hds.fl q up)
/-- an own dict frozen -/
theorem q_iced (n : Nat) (hn : Γ[n]? = some (.dk kvs)) (k : S m Y (Γ.set n (.v (.dk kvs))) i rest Φ) : S m Y Γ i rest Φ := fun W0 σ W D A r q => by
  obtain ⟨qa, e1, ⟨f, us, h1, h2⟩, h3, h4⟩ := A.ok n _ hn
  have up : ∀ a o, W.F a = some o → upd W.F qa (.dK us) a = some o := upd_none f
  have hu : Is Y.K (W.ice qa _ h1).F (.ref qa) (.dk kvs) := ⟨qa, us, rfl, upd_same, h2.mono up⟩
  have A' : Ag m Y.K W0 (Γ.set n (.v (.dk kvs))) σ (W.ice qa _ h1) := by
    refine ⟨by rw [List.length_set]; exact A.len, A.le.ice h3 h1 f, fun k s e => ?_, fun k k' t t' e e' ht ht' eq => ?_⟩
    · rcases get_set e with ⟨rfl, rfl⟩ | ⟨ne, e⟩
      · exact ⟨_, e1, hu⟩
      · have ok := A.ok k s e
        cases s with
        | no => trivial
        | v x =>
          obtain ⟨v, e2, h⟩ := ok
          exact ⟨v, e2, h.mono up⟩
        | at_ a => exact ok
        | l ds2 =>
          obtain ⟨q2, e2, ⟨f2, us2, g1, g2⟩, g3, g4⟩ := ok
          have hne : q2 ≠ qa := fun z => ne (A.sep k n _ _ e hn rfl rfl (by rw [e2, e1, z]))
          exact ⟨q2, e2, ⟨by show upd W.F qa _ q2 = none; rw [upd_ne hne]; exact f2, us2, g1, g2.mono up⟩, g3, g4⟩
        | dk kvs =>
          obtain ⟨q2, e2, ⟨f2, us2, g1, g2⟩, g3, g4⟩ := ok
          have hne : q2 ≠ qa := fun z => ne (A.sep k n _ _ e hn rfl rfl (by rw [e2, e1, z]))
          exact ⟨q2, e2, ⟨by show upd W.F qa _ q2 = none; rw [upd_ne hne]; exact f2, us2, g1, g2.mono up⟩, g3, g4⟩
    · rcases get_set e with ⟨_, rfl⟩ | ⟨ne, e⟩
      · cases ht
      · rcases get_set e' with ⟨_, rfl⟩ | ⟨ne', e'⟩
        · cases ht'
        · exact A.sep k k' t t' e e' ht ht' eq
  have r' : m.R i (W.ice qa _ h1) := m.st i W _ r (fun _ _ z => z) fun a z => by
    have hne : a ≠ qa := fun w => h4 (w ▸ z)
    show upd W.F qa _ a = none
    rw [upd_ne hne]
    exact (m.al i W r a z).2
  exact k W0 σ (W.ice qa _ h1) D A' r' (Hds.fl q up)
/-- x = [..], the name a plain local; owned -/
theorem q_setlc {elt tg iter : Expr} {ifs : List Expr} {scope : Scope} {lp : Pos} {α : Type} (n : Nat) (own : List (Str × Nat)) {xs : List α} {enc : α → PD} (J : Nat → m.ι) (pr : Nat → Bool) (g : Nat → PD) (hi : XI m Y Γ i tg iter xs enc (J 0)) (hl : xs.length ≤ 100000)
    (ht : ∀ k a, xs[k]? = some a → XTurn m Y Γ scope own tg elt ifs (.d (enc a)) (pr k) (g k) (J k) (J (k + 1)))
    (k : S m Y (Γ.set n (.l (((List.range xs.length).filter pr).map g))) (J xs.length) rest Φ)
    (hn : Y.N[n]? = some s := by rfl) (hx : Y.sc.names.lookup s = some .local := by rfl) (ok : blkB Y.N Y.sc scope own = true := by rfl)
    (hsw : ∀ a, swapsWith (.ListComp elt [⟨tg, iter, ifs, 0⟩] scope lp) (some (.Name s p')) p.line (Y.X a).env = pure true := by intro _; exact sw_true rfl rfl rfl (by decide +kernel))
    (hs : Fd' Y iter := by intro _ _; rfl) : S m Y Γ i (.Assign [.Name s p'] (.ListComp elt [⟨tg, iter, ifs, 0⟩] scope lp) p :: rest) Φ := fun W0 σ W D A r q =>
  ⟨_, fun a => pss_cons (ps_setLc (i := n) (own := own) (Y.hc a) (by rw [Y.hN]; exact Y.nd) (by rw [Y.hN]; exact hn) (by rw [Y.hsc]; exact hx) (hsw a) (wI_ok a) (by rw [Y.hN, Y.hsc]; exact blk_of ok) (fun s H C cl fp => wG_ok (Y := Y.blk scope) (a, s, H, C, cl, fp)) (fun s H C cl fp => wTs_ok (Y := Y.blk scope) (a, s, H, C, cl, fp)) (fun s H C cl fp => wE_ok (Y := Y.blk scope) (a, s, H, C, cl, fp)) (hs a)) (wSs_ok a),
    lcS_run (vs := own.map (·.2)) xs.length J pr g (hi W0 σ W A) hl (xl_run own J pr g hi ht W0 σ W A) W (Le.refl W) r (fun x H1 => wSs Y rest D (σ.set n (some x)) H1) fun v T l1 r1 ⟨qa, us, e1, e2, e3, e4, e5⟩ => by
      subst e1
      exact k W0 _ T D (A.setl l1 e2 (m.nm r e2) ⟨e3, us, e4, e5⟩) r1 (Hds.fl q l1.fl)⟩
/-- the same with tests on items, no change of the resource -/
theorem q_setlcp {elt tg iter : Expr} {ifs : List Expr} {scope : Scope} {lp : Pos} {α : Type} (n : Nat) (own : List (Str × Nat)) {xs : List α} {enc : α → PD} (pr : α → Bool) (g : α → PD) (hi : XI m Y Γ i tg iter xs enc j) (hl : xs.length ≤ 100000)
    (ht : ∀ a ∈ xs, XTurn m Y Γ scope own tg elt ifs (.d (enc a)) (pr a) (g a) j j)
    (k : S m Y (Γ.set n (.l ((xs.filter pr).map g))) j rest Φ)
    (hn : Y.N[n]? = some s := by rfl) (hx : Y.sc.names.lookup s = some .local := by rfl) (ok : blkB Y.N Y.sc scope own = true := by rfl)
    (hsw : ∀ a, swapsWith (.ListComp elt [⟨tg, iter, ifs, 0⟩] scope lp) (some (.Name s p')) p.line (Y.X a).env = pure true := by intro _; exact sw_true rfl rfl rfl (by decide +kernel))
    (hs : Fd' Y iter := by intro _ _; rfl) : S m Y Γ i (.Assign [.Name s p'] (.ListComp elt [⟨tg, iter, ifs, 0⟩] scope lp) p :: rest) Φ := by
  refine q_setlc n own (fun _ => j) (fun k => match xs[k]? with | some a => pr a | none => false) (fun k => match xs[k]? with | some a => g a | none => .none) hi hl (fun k a ha => ?_) ?_ hn hx ok hsw hs
  · show XTurn m Y Γ scope own tg elt ifs (.d (enc a)) (match xs[k]? with | some a => pr a | none => false) (match xs[k]? with | some a => g a | none => .none) j j
    rw [ha]
    exact ht a (List.mem_of_getElem? ha)
  · rw [range_filter_map xs pr g _ _ (fun k a ha => by rw [ha]) (fun k a ha => by rw [ha])]
    exact k
/-! lists and dicts changed -/
theorem q_append {po : Pos} (n : Nat) (he : X m Y Γ i e (.d d) j) (hn : Γ[n]? = some (.l ds)) (hz : ds.length < 100000) (k : S m Y (Γ.set n (.l (ds ++ [d]))) j rest Φ) (hi : Y.N[n]? = some s := by rfl) (hv : visB Y.sc s = true := by rfl) (hd : (s == ("__debug__" : Str)) = false := by decide) (hcd : (s == ("__classdict__" : Str)) = false := by decide)
    (hbase : ∀ a, attributeBase (.Name s po) "append" (Y.X a).env (eval (.Name s po) (Y.X a).env) = eval (.Name s po) (Y.X a).env := by intro _; rfl)
    (hfew : ∀ a, ((backTo cp (starEach [e] (Y.X a).env)).all (fun x => !x.1) && (backToKw cp (keywordEach [] (Y.X a).env)).all (fun x => x.1.isSome) && decide ([e].length + ([] : List Keyword).length + (if ([] : List Keyword).isEmpty then 0 else 1) < 30)) = true := by intro _; rfl)
    (hline : (ap.endLine == cp.line) = true := by rfl) (hst : Se Y e [] := by intro _; rfl) (hpl : Bt Y cp [] := by intro _; rfl)
    (hs : ∀ a, swapsWith (.Call (.Attribute (.Name s po) "append" ap) [e] [] cp) none p.line (Y.X a).env = pure false := by intro _; rfl) : S m Y Γ i (.Expr (.Call (.Attribute (.Name s po) "append" ap) [e] [] cp) p :: rest) Φ := fun W0 σ W D A r q => by
  obtain ⟨qa, e1, o, h3, h4⟩ := A.ok n _ hn
  exact s_append (e_at hi (vis_of hv) e1 hd hcd) (he _ _ _ A) r o h4 hz (fun T l r' o' => k W0 σ T D (A.mut l hn rfl e1 ⟨qa, rfl, o', h3, h4⟩ rfl) r' (Hds.fl q l.fl)) hbase hfew hline hst hpl hs
theorem q_extend {po : Pos} (n : Nat) (he : XL m Y Γ i e es' j) (hn : Γ[n]? = some (.l ds)) (hz : ds.length + es'.length ≤ 100000) (k : S m Y (Γ.set n (.l (ds ++ es'))) j rest Φ) (hi : Y.N[n]? = some s := by rfl) (hv : visB Y.sc s = true := by rfl) (hd : (s == ("__debug__" : Str)) = false := by decide) (hcd : (s == ("__classdict__" : Str)) = false := by decide)
    (hbase : ∀ a, attributeBase (.Name s po) "extend" (Y.X a).env (eval (.Name s po) (Y.X a).env) = eval (.Name s po) (Y.X a).env := by intro _; rfl)
    (hfew : ∀ a, ((backTo cp (starEach [e] (Y.X a).env)).all (fun x => !x.1) && (backToKw cp (keywordEach [] (Y.X a).env)).all (fun x => x.1.isSome) && decide ([e].length + ([] : List Keyword).length + (if ([] : List Keyword).isEmpty then 0 else 1) < 30)) = true := by intro _; rfl)
    (hline : (ap.endLine == cp.line) = true := by rfl) (hst : Se Y e [] := by intro _; rfl) (hpl : Bt Y cp [] := by intro _; rfl)
    (hs : ∀ a, swapsWith (.Call (.Attribute (.Name s po) "extend" ap) [e] [] cp) none p.line (Y.X a).env = pure false := by intro _; rfl) : S m Y Γ i (.Expr (.Call (.Attribute (.Name s po) "extend" ap) [e] [] cp) p :: rest) Φ := fun W0 σ W D A r q => by
  obtain ⟨qa, e1, o, h3, h4⟩ := A.ok n _ hn
  exact s_extend (e_at hi (vis_of hv) e1 hd hcd) (he _ _ _ A) r o h4 hz (fun T l r' o' => k W0 σ T D (A.mut l hn rfl e1 ⟨qa, rfl, o', h3, h4⟩ rfl) r' (Hds.fl q l.fl)) hbase hfew hline hst hpl hs
/-- found[key] = value, found an own dict -/
theorem q_dput {g : Int} {value : Expr} {po : Pos} (n : Nat) (hv' : X m Y Γ i value (.d d) j) (hk : X m Y Γ j key (.d (.int g)) j) (hn : Γ[n]? = some (.dk kvs)) (hz : kvs.length < 100000) (k : S m Y (Γ.set n (.dk (putD kvs (.inl g) d))) j rest Φ) (hi : Y.N[n]? = some s := by rfl) (hv : visB Y.sc s = true := by rfl) (hd : (s == ("__debug__" : Str)) = false := by decide) (hcd : (s == ("__classdict__" : Str)) = false := by decide)
    (hs : ∀ a, swapsWith value (some (.Subscript (.Name s po) key p')) p.line (Y.X a).env = pure false := by intro _; rfl) : S m Y Γ i (.Assign [.Subscript (.Name s po) key p'] value p :: rest) Φ := fun W0 σ W D A r q => by
  obtain ⟨qa, e1, o, h3, h4⟩ := A.ok n _ hn
  exact s_dput (hv' _ _ _ A) (fun T l => e_at hi (vis_of hv) e1 hd hcd) (fun T l => hk _ _ _ (A.go l)) r o h4 hz (fun T l r' o' => k W0 σ T D (A.mut l hn rfl e1 ⟨qa, rfl, o', h3, h4⟩ rfl) r' (Hds.fl q l.fl)) hs
/-! loops -/
/-- how a turn of a loop ends -/
def lp (m : Mode) (Y : Fam) (rest : List Stmt) (Inv : Ctx → m.ι → Prop) (Φ : Out m.ι → Prop) : Out m.ι → Prop
  | .nx Γ j => Inv Γ j
  | .ct Γ j => Inv Γ j
  | .bk Γ j => S m Y Γ j rest Φ
  | .rt x j => Φ (.rt x j)
theorem q_for {α : Type} {tg iter : Expr} {xs : List α} {enc : α → PD} (Inv : List α → Ctx → m.ι → Prop) (hi : XI m Y Γ i tg iter xs enc j) (h0 : Inv [] Γ j)
    (hs : ∀ done a todo Γ1 c, xs = done ++ a :: todo → Inv done Γ1 c → ∃ Γ2 ix, XG m Y Γ1 tg (.d (enc a)) Γ2 ix ∧ S m Y Γ2 c body (lp m Y rest (Inv (done ++ [a])) Φ))
    (hd : ∀ Γ1 c, Inv xs Γ1 c → S m Y Γ1 c rest Φ) (hp : ∀ a, PassesOwn (model (Y.X a).prog (Y.X a).w) (Y.X a).A (Y.X a).env (Y.X a).xe := by intro _; exact PassesOwn.never)
    (hss : Fd' Y iter := by intro _ _; rfl) : S m Y Γ i (.For tg iter body [] p :: rest) Φ := fun W0 σ W D A r q => by
  refine s_forE (fun T0 done σ' T c => ∃ Γ1, Inv done Γ1 c ∧ Ag m Y.K W0 Γ1 σ' T) (hi _ _ _ A) r (fun T0 l0 r0 => ⟨Γ, h0, A.go l0⟩) (fun T0 l0 done a todo hx σ' T c f r1 ⟨Γ1, hI, A1⟩ v T' l2 r2 hv => ?_) (fun T0 l0 σ' T c f r1 ⟨Γ1, hI, A1⟩ => hd Γ1 c hI W0 σ' T D A1 r1 (Hds.fl q (l0.fl.trans f))) hp hss
  obtain ⟨Γ2, ix, hg, hb⟩ := hs done a todo Γ1 c hx hI
  obtain ⟨σ2, A2, _, _, z⟩ := hg W0 σ' T' v (A1.go l2.of0) hv
  refine z _ (hb W0 σ2 T' _ A2 r2 fun o ho => ?_)
  have ff : Fl T0 T' := f.trans l2.fl
  cases o with
  | nx Γ3 j3 => exact fun σ3 V f3 A3 r3 => ⟨V, j3, rfl, ff.trans f3, r3, Γ3, ho, A3⟩
  | ct Γ3 j3 => exact fun σ3 V f3 A3 r3 => ⟨V, j3, rfl, ff.trans f3, r3, Γ3, ho, A3⟩
  | bk Γ3 j3 => exact fun σ3 V f3 A3 r3 => ho W0 σ3 V D A3 r3 (Hds.fl q (l0.fl.trans (ff.trans f3)))
  | rt x j3 => exact (q _ ho).fl (l0.fl.trans ff)
theorem q_while {te : Expr} (Inv : Nat → Ctx → m.ι → Prop) (q0 : Nat) (h0 : Inv q0 Γ i)
    (hs : ∀ n Γ1 c, Inv n Γ1 c → ∃ b c2, XT m Y Γ1 c te b c2 ∧ (b = true → S m Y Γ1 c2 body (lp m Y rest (fun Γ3 c3 => ∃ n', n' < n ∧ Inv n' Γ3 c3) Φ)) ∧ (b = false → S m Y Γ1 c2 rest Φ))
    (hp : ∀ a, PassesOwn (model (Y.X a).prog (Y.X a).w) (Y.X a).A (Y.X a).env (Y.X a).xe := by intro _; exact PassesOwn.never) : S m Y Γ i (.While te body [] p :: rest) Φ := fun W0 σ W D A r q => by
  refine s_while (fun n σ' T c => ∃ Γ1, Inv n Γ1 c ∧ Ag m Y.K W0 Γ1 σ' T) q0 ⟨Γ, h0, A⟩ r (fun n σ' T c r1 f ⟨Γ1, hI, A1⟩ => ?_) hp
  obtain ⟨b, c2, ht, k1, k2⟩ := hs n Γ1 c hI
  refine ⟨b, c2, ht _ _ _ A1, fun hb T2 l2 r2 => ?_, fun hb T2 l2 r2 => k2 hb W0 σ' T2 D (A1.go l2) r2 (Hds.fl q (f.trans l2.fl))⟩
  refine k1 hb W0 σ' T2 _ (A1.go l2) r2 fun o ho => ?_
  have ff : Fl W T2 := f.trans l2.fl
  cases o with
  | nx Γ3 j3 =>
    obtain ⟨n', hn, hI3⟩ := ho
    exact fun σ3 V f3 A3 r3 => ⟨n', V, j3, hn, rfl, ff.trans f3, r3, Γ3, hI3, A3⟩
  | ct Γ3 j3 =>
    obtain ⟨n', hn, hI3⟩ := ho
    exact fun σ3 V f3 A3 r3 => ⟨n', V, j3, hn, rfl, ff.trans f3, r3, Γ3, hI3, A3⟩
  | bk Γ3 j3 => exact fun σ3 V f3 A3 r3 => ho W0 σ3 V D A3 r3 (Hds.fl q (ff.trans f3))
  | rt x j3 => exact (q _ ho).fl ff
end
/-! ### defs -/
/-- the start: the parameters -/
def startC (N : List Str) (xs : List Sv) : Ctx := xs.map .v ++ List.replicate (N.length - xs.length) .no
theorem startC_get {N : List Str} {xs : List Sv} {n : Nat} {s : Sl} (h : (startC N xs)[n]? = some s) : s = .no ∨ ∃ x, s = .v x ∧ xs[n]? = some x := by
  unfold startC at h
  by_cases hn : n < xs.length
  · rw [List.getElem?_append_left (by rw [List.length_map]; exact hn), List.getElem?_map, List.getElem?_eq_getElem hn] at h
    exact .inr ⟨_, (Option.some.inj h).symm, List.getElem?_eq_getElem hn⟩
  · rw [List.getElem?_append_right (by rw [List.length_map]; omega), List.getElem?_replicate] at h
    split at h
    · exact .inl (Option.some.inj h).symm
    · cases h
theorem ag_start {m : Mode} {K : PySem.W.Frag} {W : Wd} {N : List Str} {vs : List V} {xs : List Sv} (h : AllIs K W.F vs xs) : Ag m K W (startC N xs) (L2.start N vs) W := by
  have hl := h.len
  have get : ∀ (n : Nat) x, xs[n]? = some x → ∃ v, (L2.start N vs)[n]? = some (some v) ∧ Is K W.F v x := fun n x e => by
    rcases h.get n with ⟨_, h2⟩ | ⟨v, x', h1, h2, h3⟩
    · rw [e] at h2
      cases h2
    · rw [e] at h2
      cases h2
      refine ⟨v, ?_, h3⟩
      unfold L2.start
      have hn := (List.getElem?_eq_some_iff.mp h1).1
      rw [List.getElem?_append_left (by rw [List.length_map]; exact hn), List.getElem?_map, h1]
      rfl
  refine ⟨?_, Le.refl W, fun n s e => ?_, fun n n' s s' e e' hs => ?_⟩
  · unfold L2.start startC
    simp [hl]
  · rcases startC_get e with rfl | ⟨x, rfl, hx⟩
    · trivial
    · exact get n x hx
  · rcases startC_get e with rfl | ⟨x, rfl, hx⟩ <;> cases hs
/-- a pure def, by its body -/
theorem fnX {P : Program} {w : World} {K : PySem.W.Frag} {mg : Str → Option Value} {base : Heap} {x : Str} {st : Stmt} {f : Addr} {fd : FuncData} {N ps : List Str} {k : Nat} {R : List Sv → Sv → Prop} (F : FnD K x st f fd) (Sc : FnScope N ps (defScope st))
    (hl : ∀ xs y, R xs y → xs.length = ps.length)
    (hbody : ∀ (cdv : Value) (A : Around) (outer : List Env) (s : Shared) (H : Hp) (hr : RoomG k (A.deeper (envOfC x (defScope st) s.heap.objs.size f cdv))) (xs : List Sv) (y : Sv), R xs y →
      S m0 (dFam P w K mg base N Sc.nd x (defScope st) f cdv A outer s H k hr) (startC N xs) () (defBody st) (fun o => (∃ j, o = .rt y j) ∨ (y = .d .none ∧ ∃ Γ j, o = .nx Γ j))) : FnG P w K mg base (k + 1) f fd ps (pureSp K R) :=
  fnPure F Sc hl fun cdv A outer s H hr vs W xs y ha hR D hD hN => hbody cdv A outer s H hr xs y hR W _ W D (ag_start ha) True.intro fun o ho => by
    rcases ho with ⟨j, rfl⟩ | ⟨hy, Γ, j, rfl⟩
    · exact fun v W' _ l _ hv => hD v W' l hv
    · exact fun σ' W' _ A' _ => hN hy σ' W' A'.le
end Xv
set_option Elab.async false
set_option linter.all false
set_option maxRecDepth 100000
set_option maxHeartbeats 4000000
namespace Xv
open PySem PySem.Spec PyProof.Rows L2 Pv
/-! ### the bag -/
section
variable {B C : Addr} {T : List (Addr × Str)} {Y : Fam} {Γ : Ctx} {i j k : Bag} {s sb : Str} {p pb pos : Pos} {e : Expr} {es : List Expr} {y : Sv}
theorem x_draw {q : Nat} {st : Stmt} {ps : List Str} {below : Int} (C0 : Cl Y.P Y.w Y.K Y.mg Y.base q s st ps drawSp) (hb : X (lawM B C T) Y Γ i e (.d (.int below)) j) (h0 : 0 < below) (h1 : below.natAbs.log2 < 9000)
    (hl : (Y.N.zip Γ).lookup sb = some (.at_ B) := by rfl) (hv : visB Y.sc sb = true := by rfl) (hq : q ≤ Y.k := by exact Nat.le_of_ble_eq_true rfl) (hg : Gb Y s := by rfl) (hd : (sb == ("__debug__" : Str)) = false := by decide) (hcd : (sb == ("__classdict__" : Str)) = false := by decide) (hdb : (s == ("__debug__" : Str)) = false := by decide)
    (he : Se Y (.Name sb pb) [e] := by intro _; rfl) (he2 : Se Y e [] := by intro _; rfl) (hpl : Bt Y pos [e] := by intro _; rfl) : X (lawM B C T) Y Γ i (.Call (.Name s p) [.Name sb pb, e] [] pos) (.d (.int (dr j below).1)) (dr j below).2 := fun W0 σ W A => by
  obtain ⟨n, e1, e2⟩ := zip_look hl
  exact e_draw n C0 (hb _ _ _ A) h0 h1 e1 hv (A.ok n _ e2) hq hg hd hcd hdb he he2 hpl
theorem x_pick {q : Nat} {st : Stmt} {ps : List Str} {ns : List Int} (C0 : Cl Y.P Y.w Y.K Y.mg Y.base q s st ps (pickSp Y.K)) (hb : X (lawM B C T) Y Γ i e (.d (.list (ns.map .int))) j) (h0 : ns ≠ []) (h1 : ns.length ≤ 1000)
    (hl : (Y.N.zip Γ).lookup sb = some (.at_ B) := by rfl) (hv : visB Y.sc sb = true := by rfl) (hq : q ≤ Y.k := by exact Nat.le_of_ble_eq_true rfl) (hg : Gb Y s := by rfl) (hd : (sb == ("__debug__" : Str)) = false := by decide) (hcd : (sb == ("__classdict__" : Str)) = false := by decide) (hdb : (s == ("__debug__" : Str)) = false := by decide)
    (he : Se Y (.Name sb pb) [e] := by intro _; rfl) (he2 : Se Y e [] := by intro _; rfl) (hpl : Bt Y pos [e] := by intro _; rfl) : X (lawM B C T) Y Γ i (.Call (.Name s p) [.Name sb pb, e] [] pos) (.d (.int (pickI ns j))) (dr j ns.length).2 := fun W0 σ W A => by
  obtain ⟨n, e1, e2⟩ := zip_look hl
  exact e_pick n C0 (hb _ _ _ A) h0 h1 e1 hv (A.ok n _ e2) hq hg hd hcd hdb he he2 hpl
end
/-- a def of the law, its first parameter the bag: Ok asks, R tells -/
def bagSp (K : PySem.W.Frag) (T : List (Addr × Str)) (Ok : List Sv → Bag → Prop) (R : List Sv → Bag → Sv → Bag → Prop) : Spg := fun vs H Q => ∃ (W : Wd) (B C : Addr) (b : Bag) (vs' : List V) (xs : List Sv), W.H = H ∧ vs = .ref B :: vs' ∧ BagR B C T b W ∧ AllIs K W.F vs' xs ∧ Ok xs b ∧
  ∀ y b', R xs b y b' → ∀ v V, Le (lawM B C T).M W V → BagR B C T b' V → Is K V.F v y → Q v V.H
/-- the start of such a def -/
def startB (N : List Str) (B : Addr) (xs : List Sv) : Ctx := .at_ B :: (xs.map .v ++ List.replicate (N.length - (xs.length + 1)) .no)
theorem ag_startB {m : Mode} {K : PySem.W.Frag} {W : Wd} {N : List Str} {B : Addr} {vs : List V} {xs : List Sv} (h : AllIs K W.F vs xs) : Ag m K W (startB N B xs) (L2.start N (.ref B :: vs)) W := by
  have hl := h.len
  have e0 : L2.start N (.ref B :: vs) = some (.ref B) :: (vs.map some ++ List.replicate (N.length - (vs.length + 1)) none) := rfl
  rw [e0]
  have sl : ∀ (n : Nat) s, (startB N B xs)[n]? = some s → s.isO = false ∧ SlOk m K W W s (some (.ref B) :: (vs.map some ++ List.replicate (N.length - (vs.length + 1)) none))[n]? := fun n s e => by
    cases n with
    | zero =>
      have : s = .at_ B := (Option.some.inj e).symm
      subst this
      exact ⟨rfl, rfl⟩
    | succ n =>
      have e' : (xs.map Sl.v ++ List.replicate (N.length - (xs.length + 1)) Sl.no)[n]? = some s := e
      by_cases hn : n < xs.length
      · rw [List.getElem?_append_left (by rw [List.length_map]; exact hn), List.getElem?_map, List.getElem?_eq_getElem hn] at e'
        have : s = .v xs[n] := (Option.some.inj e').symm
        subst this
        rcases h.get n with ⟨_, h2⟩ | ⟨v, x', h1, h2, h3⟩
        · rw [List.getElem?_eq_getElem hn] at h2
          cases h2
        · rw [List.getElem?_eq_getElem hn] at h2
          cases h2
          refine ⟨rfl, v, ?_, h3⟩
          have hv := (List.getElem?_eq_some_iff.mp h1).1
          show (vs.map some ++ List.replicate (N.length - (vs.length + 1)) none)[n]? = _
          rw [List.getElem?_append_left (by rw [List.length_map]; exact hv), List.getElem?_map, h1]
          rfl
      · rw [List.getElem?_append_right (by rw [List.length_map]; omega), List.getElem?_replicate] at e'
        split at e'
        · have : s = .no := (Option.some.inj e').symm
          subst this
          exact ⟨rfl, trivial⟩
        · cases e'
  refine ⟨?_, Le.refl W, fun n s e => (sl n s e).2, fun n n' s s' e e' hs => ?_⟩
  · simp [startB, hl]
  · rw [(sl n s e).1] at hs
    cases hs
/-- such a def, by its body; lambdas or none -/
theorem fnB {P : Program} {w : World} {K : PySem.W.Frag} {mg : Str → Option Value} {base : Heap} {T : List (Addr × Str)} {x : Str} {st : Stmt} {f : Addr} {fd : FuncData} {N ps : List Str} {k : Nat} {Ok : List Sv → Bag → Prop} {R : List Sv → Bag → Sv → Bag → Prop} (F : FnD K x st f fd) (Sc : FnScope N ps (defScope st))
    (hl : ∀ xs b, Ok xs b → xs.length + 1 = ps.length)
    (hbody : ∀ (cdv : Value) (_ : fd.code = cdv) (A : Around) (outer : List Env) (s : Shared) (H : Hp) (hr : RoomG k (A.deeper (envOfC x (defScope st) s.heap.objs.size f cdv))) (B C : Addr) (b : Bag) (xs : List Sv), Ok xs b → BagOk b →
      S (lawM B C T) (dFam P w K mg base N Sc.nd x (defScope st) f cdv A outer s H k hr) (startB N B xs) b (defBody st) (fun o => ∃ y b', R xs b y b' ∧ o = .rt y b')) : FnG P w K mg base (k + 1) f fd ps (bagSp K T Ok R) :=
  fnG_ofC F Sc (fun vs H Q ⟨W, B, C, b, vs', xs, _, e, _, ha, ho, _⟩ => by rw [e, List.length_cons, ha.len]; exact hl xs b ho)
    fun cdv hcdv A outer s H hr vs Q ⟨W, B, C, b, vs', xs, hW, e, r, ha, ho, q⟩ => by
      subst hW e
      exact hbody cdv hcdv A outer s W.H hr B C b xs ho r.ok W _ W _ (ag_startB ha) r fun o ⟨y, b', hR, e⟩ => by
        subst e
        exact fun v W' _ l r' hv => q y b' hR v W' l r' hv
section
variable {B C : Addr} {T : List (Addr × Str)} {Y : Fam} {Γ : Ctx} {i j k : Bag} {s sb : Str} {p pb pos : Pos} {e : Expr} {es : List Expr} {y : Sv}
theorem args_bag {W0 : Wd} {σ : L2.St} {W : Wd} {xs : List Sv} (A : Ag (lawM B C T) Y.K W0 Γ σ W) (ha : XA (lawM B C T) Y Γ i es xs j) (hl : (Y.N.zip Γ).lookup sb = some (.at_ B)) (hv : visB Y.sc sb = true) (hd : (sb == ("__debug__" : Str)) = false) (hcd : (sb == ("__classdict__" : Str)) = false) (he : Se Y (.Name sb pb) es) :
    EAG (lawM B C T) Y σ W i (.Name sb pb :: es) (fun U vs V => ∃ vs', vs = .ref B :: vs' ∧ AllIs Y.K V.F vs' xs) j := by
  obtain ⟨n, e1, e2⟩ := zip_look hl
  intro U l r Q q
  have h1 : EG (lawM B C T) Y σ W i (.Name sb pb) (fun _ v _ => v = .ref B) i := e_at e1 (vis_of hv) (A.ok n _ e2) hd hcd
  refine ⟨_, fun a => pa_cons (wE_ok a) (wA_ok a) (he a), h1 U l r _ fun v T1 l1 r1 hv1 => ha _ _ _ A T1 (l.trans l1) r1 _ fun vs T2 l2 r2 hvs => ?_⟩
  subst hv1
  exact q (.ref B :: vs) T2 (l1.trans l2) r2 ⟨vs, rfl, hvs⟩
/-- a call of a def of the law whose answer and bag are known -/
theorem x_bag {q : Nat} {st : Stmt} {ps : List Str} {Ok : List Sv → Bag → Prop} {R : List Sv → Bag → Sv → Bag → Prop} {xs : List Sv} (C0 : Cl Y.P Y.w Y.K Y.mg Y.base q s st ps (bagSp Y.K T Ok R)) (ha : XA (lawM B C T) Y Γ i es xs j) (ho : Ok xs j) (hR : ∀ y' b', R xs j y' b' → y' = y ∧ b' = k)
    (hl : (Y.N.zip Γ).lookup sb = some (.at_ B) := by rfl) (hv : visB Y.sc sb = true := by rfl) (hq : q ≤ Y.k := by exact Nat.le_of_ble_eq_true rfl) (hg : Gb Y s := by rfl) (hd : (sb == ("__debug__" : Str)) = false := by decide) (hcd : (sb == ("__classdict__" : Str)) = false := by decide) (hdb : (s == ("__debug__" : Str)) = false := by decide)
    (he : Se Y (.Name sb pb) es := by intro _; rfl) (hpl : Bt Y pos es := by intro _; rfl) : X (lawM B C T) Y Γ i (.Call (.Name s p) (.Name sb pb :: es) [] pos) y k := fun W0 σ W A U l r Q z => by
  obtain ⟨f, fd, m1, m2, m3⟩ := C0.ex
  exact ⟨fun σ H Q => wA Y (.Name sb pb :: es) σ H fun vs H1 => bagSp Y.K T Ok R vs H1 Q, fun a => pe_callG (by rw [Y.hP, Y.hw, Y.hK, Y.hmg, Y.hbase]; exact m3) ((Y.hr a).mono hq) (hg.gl a) (by rw [Y.hmg]; exact m1) (by rw [Y.hK]; exact m2.kp) (by rw [Y.hK]; exact m2.bindsN C0.b) (wA_ok a) hdb (he a) (hpl a),
    args_bag A ha hl hv hd hcd he U l r _ fun vs T0 l0 r0 ⟨vs', e1, e2⟩ => ⟨T0, B, C, j, vs', xs, rfl, e1, r0, e2, ho, fun y' b' hr v V l' r' hv' => by
      obtain ⟨ey, eb⟩ := hR y' b' hr
      subst ey eb
      exact z v V (l0.trans l') r' hv'⟩⟩
/-- a test made of calls of defs of the law: the bag is some other one behind it -/
theorem x_bagT {q : Nat} {st : Stmt} {ps : List Str} {Ok : List Sv → Bag → Prop} {R : List Sv → Bag → Sv → Bag → Prop} {xs : Bag → List Sv} {jj : Bag → Bag} (C0 : Cl Y.P Y.w Y.K Y.mg Y.base q s st ps (bagSp Y.K T Ok R)) (ha : ∀ c, BagOk c → XA (lawM B C T) Y Γ c es (xs c) (jj c)) (ho : ∀ c, BagOk c → Ok (xs c) (jj c)) (hR : ∀ c, BagOk c → ∀ y' b', R (xs c) (jj c) y' b' → y' = y)
    (hl : (Y.N.zip Γ).lookup sb = some (.at_ B) := by rfl) (hv : visB Y.sc sb = true := by rfl) (hq : q ≤ Y.k := by exact Nat.le_of_ble_eq_true rfl) (hg : Gb Y s := by rfl) (hd : (sb == ("__debug__" : Str)) = false := by decide) (hcd : (sb == ("__classdict__" : Str)) = false := by decide) (hdb : (s == ("__debug__" : Str)) = false := by decide)
    (he : Se Y (.Name sb pb) es := by intro _; rfl) (hpl : Bt Y pos es := by intro _; rfl) : ∀ W0 σ W, Ag (lawM B C T) Y.K W0 Γ σ W → E (mx (lawM B C T)) Y σ W () (.Call (.Name s p) (.Name sb pb :: es) [] pos) y () := fun W0 σ W A U l ⟨c, r⟩ Q z => by
  obtain ⟨f, fd, m1, m2, m3⟩ := C0.ex
  exact ⟨fun σ H Q => wA Y (.Name sb pb :: es) σ H fun vs H1 => bagSp Y.K T Ok R vs H1 Q, fun a => pe_callG (by rw [Y.hP, Y.hw, Y.hK, Y.hmg, Y.hbase]; exact m3) ((Y.hr a).mono hq) (hg.gl a) (by rw [Y.hmg]; exact m1) (by rw [Y.hK]; exact m2.kp) (by rw [Y.hK]; exact m2.bindsN C0.b) (wA_ok a) hdb (he a) (hpl a),
    args_bag A (ha c r.ok) hl hv hd hcd he U l r _ fun vs T0 l0 r0 ⟨vs', e1, e2⟩ => ⟨T0, B, C, jj c, vs', xs c, rfl, e1, r0, e2, ho c r.ok, fun y' b' hr v V l' r' hv' => by
      have ey := hR c r.ok y' b' hr
      subst ey
      exact z v V (l0.trans l') ⟨b', r'⟩ hv'⟩⟩
end
/-! ### tests whose bag behind is not told -/
section
variable {m : Mode} {Y : Fam} {Γ : Ctx} {i : m.ι} {c e a b : Expr} {rest body els : List Stmt} {es : List Expr} {pos p : Pos} {u v : Bool} {x : Sv} {Φ : Out m.ι → Prop}
def Xm (m : Mode) (Y : Fam) (Γ : Ctx) (e : Expr) (x : Sv) : Prop := ∀ W0 σ W, Ag m Y.K W0 Γ σ W → E (mx m) Y σ W () e x ()
def Tm (m : Mode) (Y : Fam) (Γ : Ctx) (e : Expr) (u : Bool) : Prop := ∀ W0 σ W, Ag m Y.K W0 Γ σ W → ET (mx m) Y σ W () e u ()
def Wm (m : Mode) (Y : Fam) (Γ : Ctx) (e : Expr) (u : Bool) : Prop := ∀ W0 σ W, Ag m Y.K W0 Γ σ W → EW (mx m) Y σ W () e u ()
/-- what holds whatever the resource is -/
theorem xm_of (h : ∀ i, X m Y Γ i e x i) : Xm m Y Γ e x := fun W0 σ W A U l ⟨c, r⟩ Q z => h c W0 σ W A U l r Q fun v T l1 r1 p => z v T l1 ⟨c, r1⟩ p
theorem tm_val (h : Xm m Y Γ e (.d (.bool u))) (he : ∀ a, ∀ whole, isTrue e (Y.X a).env whole = (do let v ← whole; standAt e.pos; holding [v] (truthy v)) := by intro _ _; rfl) : Tm m Y Γ e u := fun _ _ _ A => et_val (h _ _ _ A) he
theorem tm_not (h : Tm m Y Γ e u) : Tm m Y Γ (.UnaryOp .Not e pos) (!u) := fun _ _ _ A => et_not (h _ _ _ A)
theorem tm_w (h : Wm m Y Γ e u) : Tm m Y Γ e u := fun _ _ _ A => et_w (h _ _ _ A)
theorem tm_of (h : ∀ i, XT m Y Γ i e u i) : Tm m Y Γ e u := fun W0 σ W A U l ⟨c, r⟩ Q z => h c W0 σ W A U l r Q fun T l1 r1 => z T l1 ⟨c, r1⟩
theorem wm_or1 (h : Tm m Y Γ a u) : Wm m Y Γ (.BoolOp .Or [a] pos) u := fun _ _ _ A => ew_or1 (h _ _ _ A)
theorem wm_or (h : Tm m Y Γ a u) (h2 : u = false → Wm m Y Γ (.BoolOp .Or (b :: es) pos) v) : Wm m Y Γ (.BoolOp .Or (a :: b :: es) pos) (u || v) := fun _ _ _ A => ew_or (h _ _ _ A) fun q => h2 q _ _ _ A
theorem xm_and (h : Xm m Y Γ a (.d (.bool u))) (h2 : u = true → Xm m Y Γ (.BoolOp .And (b :: es) pos) (.d (.bool v))) : Xm m Y Γ (.BoolOp .And (a :: b :: es) pos) (.d (.bool (u && v))) := fun _ _ _ A => e_and (h _ _ _ A) fun q => h2 q _ _ _ A
theorem xm_one {op : BoolOp} (h : Xm m Y Γ a x) : Xm m Y Γ (.BoolOp op [a] pos) x := fun _ _ _ A => e_one (h _ _ _ A)
/-- if a test fails to hold: go on, with some resource -/
theorem q_whenF (ht : Tm m Y Γ c false) (h2 : ∀ j, S m Y Γ j rest Φ) : S m Y Γ i (.If c body [] p :: rest) Φ := fun W0 σ W D A r q =>
  s_when (m := mx m) (i := ()) (ht _ _ _ A) ⟨i, r⟩ (fun z => nomatch z) (fun _ T l ⟨j, r'⟩ => h2 j W0 σ T D (A.go l) r' (Hds.fl q l.fl))
theorem q_retm (he : Xm m Y Γ e x) (h : ∀ j, Φ (.rt x j)) : S m Y Γ i (.Return (some e) p :: rest) Φ := fun W0 σ W D A r q =>
  s_ret (m := mx m) (i := ()) (he _ _ _ A) ⟨i, r⟩ fun v T l ⟨j, r'⟩ hv => q _ (h j) v T l.fl (A.le.trans l) r' hv
end
/-- what the bag bears -/
theorem q_bag {B C : Addr} {T : List (Addr × Str)} {Y : Fam} {Γ : Ctx} {b : Bag} {ss : List Stmt} {Φ : Out Bag → Prop} (h : BagOk b → S (lawM B C T) Y Γ b ss Φ) : S (lawM B C T) Y Γ b ss Φ := fun W0 σ W D A r q => h (show BagR B C T b W from r).ok W0 σ W D A r q
/-! ### the rule for the law's own comparison -/
section
variable {B Cc : Addr} {T : List (Addr × Str)} {Y : Fam} {Γ : Ctx} {i j : Bag} {qn s : Str} {P : Addr} {d : PD} {due b1 b2 : Expr} {pa1 pa2 : Arguments} {sc1 sc2 : Scope} {po1 po2 p pos : Pos}
theorem x_is {q0 kk : Nat} {st : Stmt} {ps : List Str} (a0 : Y.α) (C : Cl Y.P Y.w Y.K Y.mg Y.base q0 s st ps (isSp Y.P Y.w Y.K Y.mg Y.base (kk + 1))) (L : LamY Y T qn P) (hd : X (lawM B Cc T) Y Γ i due (.d d) j) (hn : Nc d)
    (h1 : ∀ f c' cl, X m0 (loFam Y.P Y.w Y.K Y.mg Y.base Y.N Y.nd qn sc1 f c' cl kk) (froC Γ) () b1 (.d d) ()) (h2 : ∀ f c' cl, X m0 (loFam Y.P Y.w Y.K Y.mg Y.base Y.N Y.nd qn sc2 f c' cl kk) (froC Γ) () b2 (.d d) ())
    (hΓ : Γ.length = Y.N.length := by rfl) (hps : ps.length = 3 := by rfl) (hq : q0 ≤ Y.k := by exact Nat.le_of_ble_eq_true rfl) (hk1 : lamB Y.sc sc1 = true := by rfl) (hk2 : lamB Y.sc sc2 = true := by rfl)
    (hb1 : ∀ (q : Str) (cl : List (Str × Addr)) (pm cv ctv : Value), bindArgs (PySem.W.kla_fn "<lambda>" q pa1 b1 sc1 cl pm cv ctv) ⟨[], []⟩ = pure [] := by intros; rfl) (hb2 : ∀ (q : Str) (cl : List (Str × Addr)) (pm cv ctv : Value), bindArgs (PySem.W.kla_fn "<lambda>" q pa2 b2 sc2 cl pm cv ctv) ⟨[], []⟩ = pure [] := by intros; rfl)
    (hdf1 : ∀ a, defaultsOf pa1 (Y.X a).env = ([], []) := by intro _; rfl) (hdf2 : ∀ a, defaultsOf pa2 (Y.X a).env = ([], []) := by intro _; rfl)
    (hg : Gb Y s := by rfl) (hdb : (s == ("__debug__" : Str)) = false := by decide)
    (he : Se Y due [.Lambda pa1 b1 sc1 po1, .Lambda pa2 b2 sc2 po2] := by intro _; rfl) (hpl : Bt Y pos [.Lambda pa1 b1 sc1 po1, .Lambda pa2 b2 sc2 po2] := by intro _; rfl) :
    X (lawM B Cc T) Y Γ i (.Call (.Name s p) [due, .Lambda pa1 b1 sc1 po1, .Lambda pa2 b2 sc2 po2] [] pos) (.d (.bool true)) j := fun W0 σ W A =>
  e_is a0 C L (hd _ _ _ A) hn (fun f c' cl => h1 f c' cl _ _ _ A.fro) (fun f c' cl => h2 f c' cl _ _ _ A.fro) hps hq (A.len.trans hΓ) hk1 hk2 hb1 hb2 hdf1 hdf2 hg hdb he hpl
end
end Xv
set_option Elab.async false
set_option linter.all false
set_option maxRecDepth 100000
set_option maxHeartbeats 4000000
/-! list(zip(a, b)), a and b lists or tuples: a new list of new pairs -/
namespace ZL
open PySem PySem.Spec PyProof.Rows
theorem szu (h : Heap) (a : Addr) (f : Obj → Obj) : (h.update a f).objs.size = h.objs.size := (Heap.SameBut.update h a f).1
section
variable {prog : Program} {w : World} {A : Around} {E : Value → Shared → Prop} {s : Shared} {z TI TO i1 i2 T : Addr} {fp1 fp2 : List Addr} {n1 n2 i : Nat} {P1 P2 : Nat → Value → Prop} {St1 St2 : Nat → Heap → Prop} {f : Bool} {oT : Obj}
theorem held_item {Q : Value → Shared → Prop} (S : ZipSep2 z TI TO i1 i2 fp1 fp2) (D1 : Draws prog w A i1 fp1 n1 P1 St1) (D2 : Draws prog w A i2 fp2 n2 P2 St2)
    (hz : IsZipHeld s.heap z TI TO T f) (hT : s.heap.get? T = some oT) (hTI : IsTupOf2 s.heap TI (.ref i1) (.ref i2)) (st1 : St1 i s.heap) (st2 : St2 i s.heap) (hlt1 : i < n1) (hlt2 : i < n2)
    (hQ : ∀ x1 x2 h' tk, P1 i x1 → P2 i x2 → IsZipHeld h' z TI TO T true → St1 (i + 1) h' → St2 (i + 1) h' → IsTupOf2 h' s.heap.objs.size x1 x2 → h'.objs.size = s.heap.objs.size + 1 →
      (∀ c o, c ≠ z → c ≠ i1 → c ≠ i2 → s.heap.get? c = some o → h'.get? c = some o) → Q (.ref s.heap.objs.size) { s with heap := h', toks := tk }) :
    wpAny (model prog w) A (Builtin.«zip.__next__» ⟨[.ref z], []⟩) (fun fin s' => ∃ v, fin = .done (.ret v) ∧ Q v s') E s := by
  obtain ⟨hp, g, d, tk0, os⟩ := s
  show wpAny _ _ (field (.ref z) 2 >>= _) _ _ _
  refine wpAny_bind (wpAny_field hz rfl (x := .bool false) rfl ?_)
  show wpAny _ _ (field (.ref z) 3 >>= _) _ _ _
  refine wpAny_bind (wpAny_field hz rfl (x := .ref TI) rfl ?_)
  refine wpAny_bind (wpAny_seqItems hTI rfl ?_)
  show wpAny _ _ (Builtin.SmallTypes.ownedTupleIsFree (.ref z) >>= _) _ _ _
  refine wpAny_bind (wpAny_tupleHeld_zip hz hT fun g0 hz0 hs0 => ?_)
  replace hs0 : Heap.SameBut z hp g0 := hs0
  simp only [Bool.false_eq_true, if_false]
  refine wpAny_bind ?_
  rw [← Array.forIn_toList]
  simp only [List.forIn_cons, List.forIn_nil]
  refine wpAny_bind (wpAny_bind (wpAny_holding ?_))
  show wpAny _ _ (Builtin.SmallTypes.nextOf (.ref i1) >>= _) _ _ ⟨g0, g, d, tk0, os⟩
  refine wpAny_bind (D1.item i _ _ _ hlt1 (D1.over st1 hs0 S.zf1) fun x1 p1 tk1 hx1 sn1 hp1 => wpAny_pure ?_)
  replace hp1 : Heap.SameBut i1 g0 p1 := hp1
  refine wpAny_pure ?_
  refine wpAny_bind (wpAny_bind (wpAny_holding ?_))
  show wpAny _ _ (Builtin.SmallTypes.nextOf (.ref i2) >>= _) _ _ ⟨p1, g, d, tk1, os⟩
  refine wpAny_bind (D2.item i _ _ _ hlt2 (D2.over (D2.over st2 hs0 S.zf2) hp1 S.sep1_2) fun x2 p2 tk2 hx2 sn2 hp2 => wpAny_pure ?_)
  replace hp2 : Heap.SameBut i2 p1 p2 := hp2
  refine wpAny_pure (wpAny_pure ?_)
  show wpAny _ _ (newTuple [x1, x2] >>= _) _ _ _
  refine wpAny_bind (wpAny_newTuple ?_)
  have hsz : p2.objs.size = hp.objs.size := by rw [hp2.1, hp1.1, hs0.1]
  have hz3 : IsZipHeld p2 z TI TO T true := hp2.extBut _ _ S.zi2 (hp1.extBut _ _ S.zi1 hz0)
  have hk : ∀ c o, c ≠ z → c ≠ i1 → c ≠ i2 → hp.get? c = some o → p2.get? c = some o := fun c o c1 c2 c3 e => hp2.extBut _ _ c3 (hp1.extBut _ _ c2 (hs0.extBut _ _ c1 e))
  refine wpAny_pure ⟨_, rfl, ?_⟩
  show Q (.ref p2.objs.size) ⟨p2.push { cls := .type "tuple", data := .seq #[x1, x2] }, g, d, tk2, os⟩
  have hpz : IsTupOf2 (p2.push { cls := .type "tuple", data := .seq #[x1, x2] }) p2.objs.size x1 x2 := Heap.get?_push_size _ rfl
  have hz4 : (p2.push { cls := .type "tuple", data := .seq #[x1, x2] }).objs.size = p2.objs.size + 1 := Heap.size_push ..
  rw [hsz] at hpz hz4 ⊢
  exact hQ x1 x2 _ tk2 hx1 hx2 (Heap.get?_push_of_some _ hz3) (D1.frame _ _ _ (D1.over sn1 hp2 S.sep2_1) fun b _ o e => Heap.get?_push_of_some _ e) (D2.frame _ _ _ sn2 fun b _ o e => Heap.get?_push_of_some _ e) hpz hz4 fun c o c1 c2 c3 e => Heap.get?_push_of_some _ (hk c o c1 c2 c3 e)
theorem held_end {Q : Fin → Shared → Prop} (S : ZipSep2 z TI TO i1 i2 fp1 fp2) (D1 : Draws prog w A i1 fp1 n1 P1 St1) (D2 : Draws prog w A i2 fp2 n2 P2 St2)
    (hz : IsZipHeld s.heap z TI TO T f) (hT : s.heap.get? T = some oT) (hTI : IsTupOf2 s.heap TI (.ref i1) (.ref i2)) (st1 : St1 i s.heap) (st2 : St2 i s.heap) (hle1 : i ≤ n1) (hle2 : i ≤ n2) (hend : i = n1 ∨ i = n2)
    (hE : ∀ h' tk e, (∀ c o, c ≠ z → c ≠ i1 → c ≠ i2 → s.heap.get? c = some o → h'.get? c = some o) → (∃ o, h'.get? e = some o ∧ o.cls = .type "StopIteration") → E (.ref e) { s with heap := h', toks := tk }) :
    wpAny (model prog w) A (Builtin.«zip.__next__» ⟨[.ref z], []⟩) Q E s := by
  obtain ⟨hp, g, d, tk0, os⟩ := s
  show wpAny _ _ (field (.ref z) 2 >>= _) _ _ _
  refine wpAny_bind (wpAny_field hz rfl (x := .bool false) rfl ?_)
  show wpAny _ _ (field (.ref z) 3 >>= _) _ _ _
  refine wpAny_bind (wpAny_field hz rfl (x := .ref TI) rfl ?_)
  refine wpAny_bind (wpAny_seqItems hTI rfl ?_)
  show wpAny _ _ (Builtin.SmallTypes.ownedTupleIsFree (.ref z) >>= _) _ _ _
  refine wpAny_bind (wpAny_tupleHeld_zip hz hT fun g0 hz0 hs0 => ?_)
  replace hs0 : Heap.SameBut z hp g0 := hs0
  simp only [Bool.false_eq_true, if_false]
  refine wpAny_bind ?_
  rw [← Array.forIn_toList]
  simp only [List.forIn_cons, List.forIn_nil]
  refine wpAny_bind (wpAny_bind (wpAny_holding ?_))
  show wpAny _ _ (Builtin.SmallTypes.nextOf (.ref i1) >>= _) _ _ ⟨g0, g, d, tk0, os⟩
  by_cases hlt1 : i < n1
  · refine wpAny_bind (D1.item i _ _ _ hlt1 (D1.over st1 hs0 S.zf1) fun x1 p1 tk1 hx1 sn1 hp1 => wpAny_pure ?_)
    replace hp1 : Heap.SameBut i1 g0 p1 := hp1
    refine wpAny_pure ?_
    have hi2 : i = n2 := by omega
    refine wpAny_bind (wpAny_bind (wpAny_holding ?_))
    show wpAny _ _ (Builtin.SmallTypes.nextOf (.ref i2) >>= _) _ _ ⟨p1, g, d, tk1, os⟩
    refine wpAny_bind (D2.done ⟨p1, g, d, tk1, os⟩ _ _ (by rw [← hi2]; exact D2.over (D2.over st2 hs0 S.zf2) hp1 S.sep1_2) fun q e hq he => ?_)
    replace hq : Heap.ExtBut i2 p1 q := hq
    exact hE q tk1 e (fun c o c1 c2 c3 x => hq _ _ c3 (hp1.extBut _ _ c2 (hs0.extBut _ _ c1 x))) he
  · have hi1 : i = n1 := by omega
    refine wpAny_bind (D1.done ⟨g0, g, d, tk0, os⟩ _ _ (by rw [← hi1]; exact D1.over st1 hs0 S.zf1) fun q e hq he => ?_)
    replace hq : Heap.ExtBut i1 g0 q := hq
    exact hE q tk0 e (fun c o c1 c2 _ x => hq _ _ c2 (hs0.extBut _ _ c1 x)) he
theorem pyNext_held_item {Q : Option Value → Shared → Prop} (S : ZipSep2 z TI TO i1 i2 fp1 fp2) (D1 : Draws prog w A.in1 i1 fp1 n1 P1 St1) (D2 : Draws prog w A.in1 i2 fp2 n2 P2 St2)
    (hz : IsZipHeld s.heap z TI TO T f) (hT : s.heap.get? T = some oT) (hTI : IsTupOf2 s.heap TI (.ref i1) (.ref i2)) (st1 : St1 i s.heap) (st2 : St2 i s.heap) (hlt1 : i < n1) (hlt2 : i < n2)
    (hQ : ∀ x1 x2 h' tk, P1 i x1 → P2 i x2 → IsZipHeld h' z TI TO T true → St1 (i + 1) h' → St2 (i + 1) h' → IsTupOf2 h' s.heap.objs.size x1 x2 → h'.objs.size = s.heap.objs.size + 1 →
      (∀ c o, c ≠ z → c ≠ i1 → c ≠ i2 → s.heap.get? c = some o → h'.get? c = some o) → Q (some (.ref s.heap.objs.size)) { s with heap := h', toks := tk }) :
    wpAny (model prog w) A (pyNext (.ref z)) Q E s := by
  have hTy : s.TypeIs (.ref z) "zip" := ⟨_, hz, rfl⟩
  unfold pyNext
  exact wpAny_bind (wpAny_attempt (wpAny_callSpecial?_slot (name := Str.ofString "__next__") hTy F.slot_zip_next
    (wpAny_call_entry F.slot_zip_next hTy F.entry_zip_next
      (held_item S D1 D2 hz hT hTI st1 st2 hlt1 hlt2 fun x1 x2 h' tk a0 a1 a3 a4 a5 a6 a7 a8 => wpAny_pure (hQ x1 x2 h' tk a0 a1 a3 a4 a5 a6 a7 a8)) (F.args_zip_next_1 _))))
theorem pyNext_held_end {Q : Option Value → Shared → Prop} (S : ZipSep2 z TI TO i1 i2 fp1 fp2) (D1 : Draws prog w A.in1 i1 fp1 n1 P1 St1) (D2 : Draws prog w A.in1 i2 fp2 n2 P2 St2)
    (hz : IsZipHeld s.heap z TI TO T f) (hT : s.heap.get? T = some oT) (hTI : IsTupOf2 s.heap TI (.ref i1) (.ref i2)) (st1 : St1 i s.heap) (st2 : St2 i s.heap) (hle1 : i ≤ n1) (hle2 : i ≤ n2) (hend : i = n1 ∨ i = n2)
    (hQ : ∀ h' tk, (∀ c o, c ≠ z → c ≠ i1 → c ≠ i2 → s.heap.get? c = some o → h'.get? c = some o) → Q none { s with heap := h', toks := tk }) : wpAny (model prog w) A (pyNext (.ref z)) Q E s := by
  have hTy : s.TypeIs (.ref z) "zip" := ⟨_, hz, rfl⟩
  unfold pyNext
  refine wpAny_bind (wpAny_attempt (wpAny_callSpecial?_slot (name := Str.ofString "__next__") hTy F.slot_zip_next
    (wpAny_call_entry F.slot_zip_next hTy F.entry_zip_next (held_end S D1 D2 hz hT hTI st1 st2 hle1 hle2 hend fun h' tk e hk he => ?_) (F.args_zip_next_1 _))))
  obtain ⟨o, ho, hc⟩ := he
  refine wpAny_bind (wpAny_isInstance (T := "StopIteration") (b := true) ⟨o, ho, hc⟩ isSubtype_stop ?_)
  exact wpAny_pure (hQ _ _ hk)
end
/-! ### a list takes what such an iterator gives: what is given lies in the heap -/
structure WalksH (prog : Program) (w : World) (A : Around) (I S : Addr) (wr : List Addr) (n : Nat) (P : Nat → Value → Heap → Prop) (St : Nat → Heap → Prop) : Prop where
  off : S ∉ wr
  frame : ∀ i (h h' : Heap), St i h → h.objs.size ≤ h'.objs.size → (∀ b o, b ≠ S → h.get? b = some o → h'.get? b = some o) → St i h'
  stab : ∀ i v h h', P i v h → (∀ b o, b ∉ wr → b ≠ S → h.get? b = some o → h'.get? b = some o) → P i v h'
  item : ∀ i (s : Shared) (Q : Option Value → Shared → Prop) (E : Value → Shared → Prop), i < n → St i s.heap → S < s.heap.objs.size →
    (∀ v h' tk, P i v h' → (∀ j u, P j u s.heap → u ≠ v) → St (i + 1) h' → (∀ b o, b ∉ wr → s.heap.get? b = some o → h'.get? b = some o) → Q (some v) { s with heap := h', toks := tk }) → wpAny (model prog w) A (pyNext (.ref I)) Q E s
  done : ∀ (s : Shared) (Q : Option Value → Shared → Prop) (E : Value → Shared → Prop), St n s.heap →
    (∀ h' tk, (∀ b o, b ∉ wr → s.heap.get? b = some o → h'.get? b = some o) → Q none { s with heap := h', toks := tk }) → wpAny (model prog w) A (pyNext (.ref I)) Q E s
def ItemsH (P : Nat → Value → Heap → Prop) (acc : Array Value) (i : Nat) (h : Heap) : Prop := acc.size = i ∧ (∀ (j : Nat) v, acc[j]? = some v → P j v h) ∧ ∀ (j k : Nat) v, acc[j]? = some v → acc[k]? = some v → j = k
theorem ItemsH.push {P : Nat → Value → Heap → Prop} {acc : Array Value} {i : Nat} {x : Value} {h : Heap} (q : ItemsH P acc i h) (hx : P i x h) (hn : ∀ (j : Nat) v, acc[j]? = some v → v ≠ x) : ItemsH P (acc.push x) (i + 1) h := by
  have g : ∀ (j : Nat) v, (acc.push x)[j]? = some v → (j = i ∧ v = x) ∨ (j ≠ i ∧ acc[j]? = some v) := fun j v hj => by
    rw [Array.getElem?_push] at hj
    split at hj
    · rename_i e
      rw [q.1] at e
      cases hj
      exact .inl ⟨e, rfl⟩
    · rename_i e
      rw [q.1] at e
      exact .inr ⟨e, hj⟩
  refine ⟨by rw [Array.size_push, q.1], fun j v hj => ?_, fun j k v hj hk => ?_⟩
  · rcases g j v hj with ⟨rfl, rfl⟩ | ⟨_, e⟩
    · exact hx
    · exact q.2.1 j v e
  · rcases g j v hj with ⟨rfl, rfl⟩ | ⟨_, e⟩
    · rcases g k _ hk with ⟨rfl, _⟩ | ⟨_, e'⟩
      · rfl
      · exact absurd rfl (hn k _ e')
    · rcases g k v hk with ⟨rfl, rfl⟩ | ⟨_, e'⟩
      · exact absurd rfl (hn j _ e)
      · exact q.2.2 j k v e e'
section
variable {prog : Program} {w : World} {A : Around} {R : Result → Shared → Prop} {I S : Addr} {wr : List Addr} {n : Nat} {P : Nat → Value → Heap → Prop} {St : Nat → Heap → Prop}
theorem loopH (W : WalksH prog w A.in1 I S wr n P St) (hn : n ≤ sizeLine) (res : Value) :
    ∀ (k i : Nat) (s : Shared) (acc : Array Value) (c : Nat), n - i = k → i ≤ n → St i s.heap → s.heap.get? S = some { cls := .type "list", dict := none, data := .seq acc c, slots := #[] } → ItemsH P acc i s.heap →
    (∀ h' tk acc' c', (∀ b o, b ∉ wr → b ≠ S → s.heap.get? b = some o → h'.get? b = some o) → h'.get? S = some { cls := .type "list", dict := none, data := .seq acc' c', slots := #[] } → ItemsH P acc' n h' → R (.ok (.ret res)) { s with heap := h', toks := tk }) →
    codeAny (model prog w) A (.builtin "list.extend.loop" ⟨[.ref S, .ref I, res], []⟩) R s := by
  intro k
  induction k with
  | zero =>
    intro i s acc c hk hi hst hS hacc hR
    have hin : i = n := by omega
    subst hin
    refine codeAny_builtin F.entry_extend_loop ?_
    rw [Around.under_plainId F.plain_extend_loop _]
    show wpAny _ A.in1 (pyNext (.ref I) >>= _) _ _ s
    refine wpAny_bind (W.done s _ _ hst fun h' tk hm => ?_)
    exact wpAny_pure (hR h' tk acc c (fun b o hb _ e => hm b o hb e) (hm S _ W.off hS) ⟨hacc.1, fun j v e => W.stab j v _ _ (hacc.2.1 j v e) fun b o hb _ e => hm b o hb e, hacc.2.2⟩)
  | succ k ih =>
    intro i s acc c hk hi hst hS hacc hR
    have hlt : i < n := by omega
    refine codeAny_builtin F.entry_extend_loop ?_
    rw [Around.under_plainId F.plain_extend_loop _]
    show wpAny _ A.in1 (pyNext (.ref I) >>= _) _ _ s
    refine wpAny_bind (W.item i s _ _ hlt hst (Heap.lt_size hS) fun v h1 tk1 hP hne hst' hm => ?_)
    have hS' : h1.get? S = some { cls := .type "list", dict := none, data := .seq acc c, slots := #[] } := hm S _ W.off hS
    show wpAny _ A.in1 (updateSeq S (·.push v) >>= _) _ _ _
    refine wpAny_bind ?_
    have oth : ∀ b o, b ≠ S → h1.get? b = some o → (h1.update S (Obj.mapSeq (·.push v))).get? b = some o := fun b o hb e => (Heap.get?_update_other _ _ (Ne.symm hb)).trans e
    have acc1 : ItemsH P (acc.push v) (i + 1) (h1.update S (Obj.mapSeq (·.push v))) := by
      have a1 : ItemsH P acc i h1 := ⟨hacc.1, fun j u e => W.stab j u _ _ (hacc.2.1 j u e) fun b o hb _ e => hm b o hb e, hacc.2.2⟩
      have a2 := a1.push hP fun j u e => hne j u (hacc.2.1 j u e)
      exact ⟨a2.1, fun j u e => W.stab j u _ _ (a2.2.1 j u e) fun b o _ hb e => oth b o hb e, a2.2.2⟩
    refine wpAny_updateSeq (s := { s with heap := h1, toks := tk1 }) hS' rfl (wpAny_pure ⟨plainId_quiet F.plain_extend_loop _, ih (i + 1) _ (acc.push v) _ (by omega) hlt (W.frame _ h1 _ hst' (Nat.le_of_eq (szu ..).symm) oth) (Heap.get?_update_self _ hS' rfl) acc1 fun h2 tk2 acc' c' hk2 hS2 ha2 => ?_⟩)
      (by rw [hacc.1]; omega) (by show (acc.push v).size ≤ sizeLine + 1; rw [Array.size_push, hacc.1]; omega)
    exact hR h2 tk2 acc' c' (fun b o hb hs e => hk2 b o hb hs (oth b o hs (hm b o hb e))) hS2 ha2
end
theorem zip_no_len : typeLookup (.type "zip") "__len__" = pure none := am_miss_of_fast (by decide +kernel)
theorem zip_no_hint : typeLookup (.type "zip") "__length_hint__" = pure none := am_miss_of_fast (by decide +kernel)
section
variable {prog : Program} {w : World} {A : Around} {s : Shared} {R : Result → Shared → Prop} {I S : Addr} {wr : List Addr} {n : Nat} {P : Nat → Value → Heap → Prop} {St : Nat → Heap → Prop} {TI TO : Addr} {f0 : Value}
theorem extendZ (W : WalksH prog w A.in1 I S wr n P St) (hn : n ≤ sizeLine) (hz : IsZip s.heap I TI TO f0) (res : Value) (c₀ : Nat) (hst : St 0 s.heap) (hSI : S ≠ I)
    (hS : s.heap.get? S = some { cls := .type "list", data := .seq #[] c₀ })
    (hR : ∀ h' tk acc' c', (∀ b o, b ∉ wr → b ≠ S → s.heap.get? b = some o → h'.get? b = some o) → h'.get? S = some { cls := .type "list", dict := none, data := .seq acc' c', slots := #[] } → ItemsH P acc' n h' → R (.ok (.ret res)) { s with heap := h', toks := tk }) :
    wpAny (model prog w) A.in1 (Builtin.List.listExtendWith (.ref S) (.ref I) res)
      (fun fin s' => match fin with | .done f => R (.ok f) s' | .again c' => c'.quiet = true ∧ codeAny (model prog w) A c' R s') (fun e s' => R (.error e) s') s := by
  have hT : s.TypeIs (.ref I) "zip" := ⟨_, hz, rfl⟩
  unfold Builtin.List.listExtendWith
  refine wpAny_bind (wpAny_typeOf hT ?_)
  have h1 : Builtin.List.listSameRef (.ref S) (.ref I) = false := by simp [Builtin.List.listSameRef, hSI]
  have h2 : (Value.type "zip" == Value.type "list") = false := by decide
  have h3 : (Value.type "zip" == Value.type "tuple") = false := by decide
  simp only [h1, h2, h3, Bool.or_false, Bool.false_eq_true, if_false]
  refine wpAny_bind (wpAny_pyIter_zip hz ?_)
  refine wpAny_bind (wpAny_holding ?_)
  unfold Builtin.List.listLengthHint
  refine wpAny_bind (wpAny_specialOf hT zip_no_len ?_)
  show wpAny _ A.in1 (specialOf (Value.ref I) (Str.ofString "__length_hint__") >>= _) _ _ _
  refine wpAny_bind (wpAny_specialOf hT zip_no_hint ?_)
  refine wpAny_pure ?_
  show wpAny _ A.in1 (rule "list.extend.makes-room" >>= fun _ => Builtin.List.listTouch (.ref S) >>= fun _ =>
    again (.builtin "list.extend.loop" ⟨[.ref S, .ref I, res], []⟩)) _ _ _
  refine wpAny_bind (wpAny_rule ?_)
  refine wpAny_bind ?_
  show wpAny _ A.in1 (updateSeq S (·.push .none) >>= fun _ => updateSeq S (·.pop)) _ _ _
  refine wpAny_bind (wpAny_updateSeq hS rfl ?_)
  have hS₂ := Heap.get?_update_self (Obj.mapSeq (·.push Value.none)) hS rfl
  refine wpAny_updateSeq (hz := by seq_fits) hS₂ rfl ?_
  have hS₃ := Heap.get?_update_self (Obj.mapSeq (·.pop)) hS₂ rfl
  have oth : ∀ b o, b ≠ S → s.heap.get? b = some o → ((s.heap.update S (Obj.mapSeq (·.push Value.none))).update S (Obj.mapSeq (·.pop))).get? b = some o :=
    fun b o hb e => (Heap.get?_update_other _ _ (Ne.symm hb)).trans ((Heap.get?_update_other _ _ (Ne.symm hb)).trans e)
  refine wpAny_pure ⟨plainId_quiet F.plain_extend_loop _, loopH W hn res n 0 _ _ _ rfl (Nat.zero_le _) (W.frame 0 s.heap _ hst (Nat.le_of_eq ((szu ..).trans (szu ..)).symm) oth) hS₃ ⟨rfl, fun j v e => (by simp at e), fun j k v e => (by simp at e)⟩ fun h' tk acc' c' hk hS' hacc => ?_⟩
  exact hR h' tk acc' c' (fun b o hb hs e => hk b o hb hs (oth b o hs e)) hS' hacc
end
section
variable {prog : Program} {w : World} {A : Around} {E : Value → Shared → Prop} {s : Shared} {I TI TO : Addr} {f0 : Value} {wr : List Addr} {n : Nat} {P : Nat → Value → Heap → Prop} {St : Nat → Heap → Prop}
theorem call_listZ {Q : Value → Shared → Prop} (W : WalksH prog w A.in1.in1 I s.heap.objs.size wr n P St) (hn : n ≤ sizeLine) (hz : IsZip s.heap I TI TO f0) (hst : St 0 s.heap)
    (hQ : ∀ h' tk acc' c', (∀ b o, b ∉ wr → s.heap.get? b = some o → h'.get? b = some o) → h'.get? s.heap.objs.size = some { cls := .type "list", dict := none, data := .seq acc' c', slots := #[] } → ItemsH P acc' n h' → Q (.ref s.heap.objs.size) { s with heap := h', toks := tk }) :
    wpAny (model prog w) A (call (.type "list") [.ref I]) Q E s := by
  have hSI : s.heap.objs.size ≠ I := Nat.ne_of_gt (Heap.lt_size hz)
  refine callType_codes (Q₁ := fun obj s₁ => obj = .ref s.heap.objs.size ∧ s₁ = { s with heap := s.heap.push { cls := .type "list", data := .seq #[] } }) F.called_list (F.typeCall_list_1 _) F.entry_list_init
    (code_list_new _ ⟨rfl, rfl⟩) fun obj s₁ h₁ => ?_
  obtain ⟨rfl, rfl⟩ := h₁
  have hS : (s.heap.push { cls := .type "list", data := .seq #[] }).get? s.heap.objs.size = some { cls := .type "list", data := .seq #[] } := Heap.get?_push_size _ rfl
  refine ⟨⟨_, hS, rfl⟩, F.args_list_init_2 _ _, ?_⟩
  show wpAny _ A.in1.in1 (do let old ← Builtin.List.listItems (.ref s.heap.objs.size); Builtin.List.listUpdate (.ref s.heap.objs.size) (fun _ => #[]); letGo old.toList.reverse; Builtin.List.listExtendWith (.ref s.heap.objs.size) (.ref I) .none) _ _ _
  refine wpAny_bind ?_
  unfold Builtin.List.listItems
  refine wpAny_bind (wpAny_seqItems hS rfl (wpAny_pure ?_))
  show wpAny _ A.in1.in1 (updateSeq s.heap.objs.size (fun _ => #[]) >>= fun _ => letGo (#[] : Array Value).toList.reverse >>= fun _ => Builtin.List.listExtendWith (.ref s.heap.objs.size) (.ref I) .none) _ _ _
  refine wpAny_bind (wpAny_updateSeq hS rfl ?_)
  have hS₂ := Heap.get?_update_self (Obj.mapSeq (fun _ => (#[] : Array Value))) hS rfl
  have oth : ∀ b o, b ≠ s.heap.objs.size → (s.heap.push { cls := .type "list", data := .seq #[] }).get? b = some o → ((s.heap.push { cls := .type "list", data := .seq #[] }).update s.heap.objs.size (Obj.mapSeq (fun _ => (#[] : Array Value)))).get? b = some o :=
    fun b o hb e => (Heap.get?_update_other _ _ (Ne.symm hb)).trans e
  refine wpAny_bind (wpAny_letGo ?_)
  have all : ∀ b o, s.heap.get? b = some o → ((s.heap.push { cls := .type "list", data := .seq #[] }).update s.heap.objs.size (Obj.mapSeq (fun _ => (#[] : Array Value)))).get? b = some o := fun b o e => oth b o (Nat.ne_of_lt (Heap.lt_size e)) (Heap.get?_push_of_some _ e)
  refine extendZ (s := { s with heap := (s.heap.push { cls := .type "list", data := .seq #[] }).update s.heap.objs.size (Obj.mapSeq (fun _ => (#[] : Array Value))) }) W hn (all _ _ hz) .none _ (W.frame 0 s.heap _ hst (by rw [szu, Heap.size_push]; exact Nat.le_succ _) fun b o _ e => all b o e) hSI hS₂ fun h' tk acc' c' hk hS' hacc => ?_
  exact ⟨rfl, hQ h' tk acc' c' (fun b o hb e => hk b o hb (Nat.ne_of_lt (Heap.lt_size e)) (all b o e)) hS' hacc⟩
/-- the zip itself -/
theorem walksZ {z i1 i2 S : Addr} {fp1 fp2 : List Addr} {n1 n2 : Nat} {P1 P2 : Nat → Value → Prop} {St1 St2 : Nat → Heap → Prop} (Z : ZipSep2 z TI TO i1 i2 fp1 fp2) (D1 : Draws prog w A.in1 i1 fp1 n1 P1 St1) (D2 : Draws prog w A.in1 i2 fp2 n2 P2 St2)
    (base : Nat) (hS : S ∉ [z, TI, TO, i1, i2]) (hf1 : S ∉ fp1) (hf2 : S ∉ fp2) : WalksH prog w A z S [z, TO, i1, i2] (min n1 n2)
      (fun i v h => ∃ T x1 x2, v = .ref T ∧ P1 i x1 ∧ P2 i x2 ∧ IsTupOf2 h T x1 x2 ∧ T ∉ [z, TO, i1, i2] ∧ T ≠ S ∧ base ≤ T)
      (fun i h => base ≤ h.objs.size ∧ IsTupOf2 h TI (.ref i1) (.ref i2) ∧ St1 i h ∧ St2 i h ∧
        (∃ a b, IsTupOf2 h TO a b) ∧ (IsZip h z TI TO .none ∨ ∃ T f oT, IsZipHeld h z TI TO T f ∧ h.get? T = some oT ∧ T ∉ [z, TO, i1, i2] ∧ T ≠ S)) where
  off := fun hm => by
    simp only [List.mem_cons, List.not_mem_nil, or_false, not_or] at hm hS
    obtain ⟨a, b, c, d, e⟩ := hS
    rcases hm with h | h | h | h
    · exact a h
    · exact c h
    · exact d h
    · exact e h
  frame := fun i h h' st hle hk => by
    obtain ⟨hb, hTI, s1, s2, ⟨x, y, hTO⟩, q⟩ := st
    simp only [List.mem_cons, List.not_mem_nil, or_false, not_or] at hS
    obtain ⟨a, b, c, d, e⟩ := hS
    refine ⟨Nat.le_trans hb hle, hk _ _ (Ne.symm b) hTI, D1.frame _ _ _ s1 fun x hx o ex => hk x o (fun z => hf1 (z ▸ hx)) ex, D2.frame _ _ _ s2 fun x hx o ex => hk x o (fun z => hf2 (z ▸ hx)) ex, ⟨x, y, hk _ _ (Ne.symm c) hTO⟩, ?_⟩
    rcases q with hz | ⟨T, f, oT, hz, hT, r1, r2⟩
    · exact .inl (hk _ _ (Ne.symm a) hz)
    · exact .inr ⟨T, f, oT, hk _ _ (Ne.symm a) hz, hk _ _ r2 hT, r1, r2⟩
  stab := fun i v h h' ⟨T, x1, x2, ev, p1, p2, hT, n1, n2, hb⟩ hk => ⟨T, x1, x2, ev, p1, p2, hk _ _ n1 n2 hT, n1, n2, hb⟩
  item := fun i s Q E hi st hSl hQ => by
    obtain ⟨hb, hTI, s1, s2, ⟨x, y, hTO⟩, q⟩ := st
    have hi1 : i < n1 := by omega
    have hi2 : i < n2 := by omega
    have lt : ∀ {c o}, s.heap.get? c = some o → s.heap.objs.size ≠ c := fun e => Nat.ne_of_gt (Heap.lt_size e)
    have newV : ∀ (j : Nat) (u : Value), (∃ T x1 x2, u = .ref T ∧ P1 j x1 ∧ P2 j x2 ∧ IsTupOf2 s.heap T x1 x2 ∧ T ∉ [z, TO, i1, i2] ∧ T ≠ S ∧ base ≤ T) → u ≠ .ref s.heap.objs.size := fun j u ⟨T, _, _, eu, _, _, hT, _⟩ ez => by
      rw [eu] at ez
      exact lt hT (Value.ref.inj ez).symm
    have l1 : s.heap.objs.size ≠ i1 := by
      obtain ⟨_, e⟩ := D1.live _ _ s1
      exact lt e
    have l2 : s.heap.objs.size ≠ i2 := by
      obtain ⟨_, e⟩ := D2.live _ _ s2
      exact lt e
    simp only [List.mem_cons, List.not_mem_nil, or_false, not_or] at hS
    obtain ⟨a1, a2, a3, a4, a5⟩ := hS
    rcases q with hz | ⟨T, f, oT, hz, hT, r1, r2⟩
    · refine wpAny_pyNext_zipD2_item Z D1 D2 hz hTI hTO s1 s2 hi1 hi2 fun x1 x2 h' tk y1 y2 b1 b2 d1 d2 b5 b6 hk => ?_
      have nT : s.heap.objs.size ∉ [z, TO, i1, i2] := by
        simp only [List.mem_cons, List.not_mem_nil, or_false, not_or]
        exact ⟨lt hz, lt hTO, l1, l2⟩
      refine hQ (.ref s.heap.objs.size) h' tk ⟨s.heap.objs.size, x1, x2, rfl, y1, y2, b5, nT, Nat.ne_of_gt hSl, hb⟩ newV ⟨by rw [b6]; omega, hk _ _ Z.TIz Z.TITO Z.TIi1 Z.TIi2 hTI, d1, d2, ⟨_, _, b2⟩, .inr ⟨s.heap.objs.size, false, _, b1, b5, nT, Nat.ne_of_gt hSl⟩⟩ fun c o hc e => ?_
      simp only [List.mem_cons, List.not_mem_nil, or_false, not_or] at hc
      exact hk c o hc.1 hc.2.1 hc.2.2.1 hc.2.2.2 e
    · refine pyNext_held_item Z D1 D2 hz hT hTI s1 s2 hi1 hi2 fun x1 x2 h' tk y1 y2 b1 d1 d2 b5 b6 hk => ?_
      simp only [List.mem_cons, List.not_mem_nil, or_false, not_or] at r1
      obtain ⟨q1, q2, q3, q4⟩ := r1
      have nT : s.heap.objs.size ∉ [z, TO, i1, i2] := by
        simp only [List.mem_cons, List.not_mem_nil, or_false, not_or]
        exact ⟨lt hz, lt hTO, l1, l2⟩
      refine hQ (.ref s.heap.objs.size) h' tk ⟨s.heap.objs.size, x1, x2, rfl, y1, y2, b5, nT, Nat.ne_of_gt hSl, hb⟩ newV ⟨by rw [b6]; omega, hk _ _ Z.TIz Z.TIi1 Z.TIi2 hTI, d1, d2, ⟨x, y, hk _ _ Z.TOz Z.Ti1 Z.Ti2 hTO⟩, .inr ⟨T, true, oT, b1, hk _ _ q1 q3 q4 hT, by simp only [List.mem_cons, List.not_mem_nil, or_false, not_or]; exact ⟨q1, q2, q3, q4⟩, r2⟩⟩ fun c o hc e => ?_
      simp only [List.mem_cons, List.not_mem_nil, or_false, not_or] at hc
      exact hk c o hc.1 hc.2.2.1 hc.2.2.2 e
  done := fun s Q E st hQ => by
    obtain ⟨hb, hTI, s1, s2, ⟨x, y, hTO⟩, q⟩ := st
    have e1 : min n1 n2 ≤ n1 := Nat.min_le_left ..
    have e2 : min n1 n2 ≤ n2 := Nat.min_le_right ..
    have e3 : min n1 n2 = n1 ∨ min n1 n2 = n2 := by omega
    rcases q with hz | ⟨T, f, oT, hz, hT, r1, r2⟩
    · refine wpAny_pyNext_zipD2_end Z D1 D2 hz hTI hTO s1 s2 e1 e2 e3 fun h' tk hk => hQ h' tk fun c o hc e => ?_
      simp only [List.mem_cons, List.not_mem_nil, or_false, not_or] at hc
      exact hk c o hc.1 hc.2.1 hc.2.2.1 hc.2.2.2 e
    · refine pyNext_held_end Z D1 D2 hz hT hTI s1 s2 e1 e2 e3 fun h' tk hk => hQ h' tk fun c o hc e => ?_
      simp only [List.mem_cons, List.not_mem_nil, or_false, not_or] at hc
      exact hk c o hc.1 hc.2.2.1 hc.2.2.2 e
end
end ZL
set_option Elab.async false
set_option linter.all false
set_option maxRecDepth 100000
set_option maxHeartbeats 4000000
namespace ZL
open PySem PySem.Spec PyProof.Rows L2
/-- many new objects laid and tracked at once -/
theorem inv_laidH {X : Cx} {pins : List (Addr × Obj)} {σ : L2.St} {H H' : Hp} {s : Shared} {h' : Heap} {t' : Nat} (I : Inv X pins σ H s) (k : ∀ b u, s.heap.get? b = some u → h'.get? b = some u) (ext : ∀ b u, H b = some u → H' b = some u)
    (new : ∀ b, H b = none → H' b ≠ none → s.heap.objs.size ≤ b) (ok : ∀ b u, H b = none → H' b = some u → ObjOk X.prog X.w H' h' b u) : Inv X pins σ H' { s with heap := h', toks := t' } := by
  refine I.un ⟨fun b u q _ _ _ => k b u q, fun b u q _ _ _ => ⟨u.slots, k b u q⟩, fun b u q n _ => ?_, fun b u q _ => ⟨u, k b u q⟩, fun b xs q => ext b _ q, fun b u xs q => ext b _ q, fun b ps q => ⟨#[], by rw [ext b _ q]; simp⟩⟩ fun b u e => ?_
  · cases z : H' b with
    | none => rfl
    | some v => exact absurd (new b n (by rw [z]; exact fun w => nomatch w)) (Nat.not_le_of_lt (Heap.lt_size q))
  · cases z : H b with
    | none => exact ok b u z e
    | some v =>
      have e2 := ext b v z
      rw [e] at e2
      cases e2
      exact (I.hok b u z).stay (fun c v _ q => k c v q) (fun c q => ext c _ q) fun c xs q => ext c _ q
/-- what a zip may go along -/
structure Src (h : Heap) (a : Addr) (its : Array Value) : Prop where
  ex : ∃ (o : Obj) (H0 : Heap → Prop), Begins (.ref a) o H0 ∧ H0 h ∧ a < h.objs.size ∧ ∀ (prog : Program) (w : World) (A : Around), A.handled = none → ∀ it, a ≠ it →
    ∃ St : Nat → Heap → Prop, Draws prog w A it [it, a] its.size (fun i v => its[i]? = some v) St ∧ ∀ h' : Heap, h'.get? it = some o → H0 h' → St 0 h'
theorem Src.list {h : Heap} {a : Addr} {its : Array Value} (l : h.IsList a its) : Src h a its := by
  obtain ⟨o, e, _⟩ := id l
  exact ⟨_, _, begins_list a its, l, Heap.lt_size e, fun prog w A hd it ne => ⟨_, Draws.list hd it a ne its, fun h' e l' => ⟨⟨_, e, rfl, rfl⟩, l'⟩⟩⟩
theorem Src.tup {h : Heap} {a : Addr} {its : Array Value} (l : h.IsTuple a its) : Src h a its := by
  obtain ⟨o, e, _⟩ := id l
  exact ⟨_, _, begins_tuple a its, l, Heap.lt_size e, fun prog w A hd it ne => ⟨_, Draws.tuple hd it a ne its, fun h' e l' => ⟨⟨_, e, rfl, rfl⟩, l'⟩⟩⟩
/-- the new objects: the pairs, the list -/
def zipH (H : Hp) (l : Addr) (L : List (Addr × V × V)) : Hp := fun b => if b = l then some (.lst (L.map fun t => V.ref t.1)) else match L.find? fun t => t.1 == b with
  | some t => some (.tup [t.2.1, t.2.2])
  | none => H b
def tListZip (K : PySem.W.Frag) (ta : TA) : TE := fun σ H Q => ta σ H fun vs H1 => ∃ (a b : Addr) (xs ys : List V), vs = [.ref a, .ref b] ∧ (SqL K H1 a xs ∨ SqT K H1 a xs) ∧ (SqL K H1 b ys ∨ SqT K H1 b ys) ∧
  ∀ (l : Addr) (L : List (Addr × V × V)), H1 l = none → L.map (·.2) = xs.zip ys → (∀ t ∈ L, H1 t.1 = none ∧ t.1 ≠ l) → (L.map (·.1)).Nodup → Q (.ref l) (zipH H1 l L)
theorem vals_get {xs : List V} {us : List Value} (r : Vals xs us) {i : Nat} {u : Value} (e : us[i]? = some u) : ∃ v, xs[i]? = some v ∧ RelV v u := by
  induction r generalizing i with
  | nil => simp at e
  | cons r _ ih =>
    cases i with
    | zero =>
      simp at e
      subst e
      exact ⟨_, by simp, r⟩
    | succ i =>
      obtain ⟨v, h1, h2⟩ := ih (by simpa using e)
      exact ⟨v, by simpa using h1, h2⟩
theorem nm2 {x a b : Nat} (h1 : x ≠ a) (h2 : x ≠ b) : x ∉ [a, b] := by simp [h1, h2]
theorem nm4 {x a b c d : Nat} (h1 : x ≠ a) (h2 : x ≠ b) (h3 : x ≠ c) (h4 : x ≠ d) : x ∉ [a, b, c, d] := by simp [h1, h2, h3, h4]
theorem nm5 {x a b c d e : Nat} (h1 : x ≠ a) (h2 : x ≠ b) (h3 : x ≠ c) (h4 : x ≠ d) (h5 : x ≠ e) : x ∉ [a, b, c, d, e] := by simp [h1, h2, h3, h4, h5]
theorem apart5 {g a b : Nat} (ha : a < g) (hb : b < g) : ZipSep2 (g + 4) (g + 2) (g + 3) g (g + 1) [g, a] [g + 1, b] :=
  ⟨show (g + 2 : Nat) ≠ g + 4 by omega, show (g + 3 : Nat) ≠ g + 4 by omega, show (g + 2 : Nat) ≠ g + 3 by omega, show (g + 2 : Nat) ≠ g by omega, List.mem_cons_self, nm2 (by omega) (by omega), nm2 (by omega) (by omega), show (g + 2 : Nat) ≠ g + 1 by omega, List.mem_cons_self, nm2 (by omega) (by omega), nm2 (by omega) (by omega), nm2 (by omega) (by omega), nm2 (by omega) (by omega)⟩
theorem off5 {g a b S : Nat} (ha : a < g) (hb : b < g) (hS : S = g + 5) : S ∉ [g + 4, g + 2, g + 3, g, g + 1] ∧ S ∉ [g, a] ∧ S ∉ [g + 1, b] := ⟨nm5 (by omega) (by omega) (by omega) (by omega) (by omega), nm2 (by omega) (by omega), nm2 (by omega) (by omega)⟩
theorem off4 {g c : Nat} (h : c < g) : c ∉ [g + 4, g + 3, g, g + 1] := nm4 (by omega) (by omega) (by omega) (by omega)
theorem le5 {g h : Nat} (e : h = g + 5) : g ≤ h := by omega
theorem ne1 {a g : Nat} (h : a < g) : a ≠ g + 1 := by omega
theorem neLe {a b g : Nat} (h1 : ¬ g ≤ a) (h2 : g ≤ b) : a ≠ b := by omega
theorem pe_listZip {X : Cx} {e e2 : Expr} {ta : TA} {p p2 pos pos2 : Pos} (hc : X.calm = true) (hg : Gl X "list") (hm : X.mg "list" = none) (hg2 : Gl X "zip") (hm2 : X.mg "zip" = none) (ha : PA X [e, e2] ta)
    (hs : starEach [e, e2] X.env = (false, eval e X.env) :: starEach [e2] X.env) (hpl : (backTo pos2 (starEach [e2] X.env)).any (·.1) = false)
    (hs2 : starEach [.Call (.Name "zip" p2) [e, e2] [] pos2] X.env = (false, eval (.Call (.Name "zip" p2) [e, e2] [] pos2) X.env) :: starEach [] X.env) :
    PE X (.Call (.Name "list" p) [.Call (.Name "zip" p2) [e, e2] [] pos2] [] pos) (tListZip X.K ta) := by
  refine ⟨fun pins s σ H Q I h => ?_⟩
  refine Call_ (ld_blt I hg hm boot_list (callWith_type1 (args_cons (Call_ (ld_blt I hg2 hm2 boot_zip (callWith_type1 (thn (ha.run pos2 pins s σ H _ I h) fun us s1 ⟨vs, H1, I1, r1, a, b, xs, ys, ev, hq1, hq2, q⟩ => ?_) hs hpl))) hs2) hs2 rfl))
  subst ev
  cases r1 with
  | cons ra rr =>
    cases rr with
    | cons rb rr =>
      cases rr
      cases ra
      cases rb
      have src : ∀ {c : Addr} {zs : List V}, (SqL X.K H1 c zs ∨ SqT X.K H1 c zs) → ∃ its : List Value, Vals zs its ∧ Src s1.heap c its.toArray ∧ zs.length ≤ sizeLine := fun {c zs} hq => by
        rcases hq with hq | hq
        · obtain ⟨its, rv, pl, hz⟩ := I1.list hq
          exact ⟨its, rv, .list pl.isList, hz⟩
        · obtain ⟨its, rv, pl, hz⟩ := I1.tuple hq
          exact ⟨its, rv, .tup pl, hz⟩
      obtain ⟨its1, rv1, S1, z1⟩ := src hq1
      obtain ⟨its2, rv2, S2, z2⟩ := src hq2
      obtain ⟨o1, G1, B1, g1, lt1, D1⟩ := S1.ex
      obtain ⟨o2, G2, B2, g2, lt2, D2⟩ := S2.ex
      refine zip_begins2 B1 B2 g1 g2 fun h' hz hTI hTO q1 q2 hsz hk => args_nil ?_
      have hd : X.A.handled = none := I1.ok.hd hc
      obtain ⟨St1, W1, s01⟩ := D1 X.prog X.w X.A.in1.in1.in1 hd s1.heap.objs.size (Nat.ne_of_lt lt1)
      obtain ⟨St2, W2, s02⟩ := D2 X.prog X.w X.A.in1.in1.in1 hd (s1.heap.objs.size + 1) (ne1 lt2)
      have Z := apart5 lt1 lt2
      have O5 := off5 lt1 lt2 hsz
      have WZ := walksZ (A := X.A.in1.in1) Z W1 W2 (s1.heap.objs.size) (S := h'.objs.size) O5.1 O5.2.1 O5.2.2
      refine call_listZ (s := { s1 with heap := h' }) WZ (by
        have : its1.toArray.size ≤ sizeLine := by rw [List.size_toArray, ← rv1.length]; exact z1
        exact Nat.le_trans (Nat.min_le_left ..) this) hz ⟨le5 hsz, hTI, s01 h' q1 (B1.keeps _ _ g1 hk), s02 h' q2 (B2.keeps _ _ g2 hk), ⟨_, _, hTO⟩, .inl hz⟩ fun h2 tk acc c' hk2 hS hacc => ?_
      have keep : ∀ c o, s1.heap.get? c = some o → h2.get? c = some o := fun c o e => hk2 c o (off4 (Heap.lt_size e)) (hk c o e)
      obtain ⟨a1, a2, a3⟩ := hacc
      -- the pairs, by their values
      have pick : ∀ j, j < acc.size → ∃ t : Addr × V × V, acc[j]? = some (Value.ref t.1) ∧ xs[j]? = some t.2.1 ∧ ys[j]? = some t.2.2 ∧ s1.heap.objs.size ≤ t.1 ∧ t.1 ≠ h'.objs.size ∧ ∃ u1 u2, RelV t.2.1 u1 ∧ RelV t.2.2 u2 ∧ IsTupOf2 h2 t.1 u1 u2 := fun j hj => by
        obtain ⟨T, x1, x2, e1, p1, p2, hT, _, nS, hb⟩ := a2 j acc[j] (by simp [hj])
        obtain ⟨v1, g1, r1⟩ := vals_get rv1 (i := j) (u := x1) (by simpa using p1)
        obtain ⟨v2, g2, r2⟩ := vals_get rv2 (i := j) (u := x2) (by simpa using p2)
        exact ⟨(T, v1, v2), by rw [← e1]; simp [hj], g1, g2, hb, nS, x1, x2, r1, r2, hT⟩
      have ex : ∀ n, n ≤ acc.size → ∃ L : List (Addr × V × V), L.length = n ∧ ∀ (j : Nat) (t : Addr × V × V), L[j]? = some t → acc[j]? = some (Value.ref t.1) ∧ xs[j]? = some t.2.1 ∧ ys[j]? = some t.2.2 ∧ s1.heap.objs.size ≤ t.1 ∧ t.1 ≠ h'.objs.size ∧ ∃ u1 u2, RelV t.2.1 u1 ∧ RelV t.2.2 u2 ∧ IsTupOf2 h2 t.1 u1 u2 := by
        intro n
        induction n with
        | zero => exact fun _ => ⟨[], rfl, fun j t e => by simp at e⟩
        | succ n ih =>
          intro hn
          obtain ⟨L, hL, hP⟩ := ih (by omega)
          obtain ⟨t, ht⟩ := pick n (by omega)
          refine ⟨L ++ [t], by simp [hL], fun j u e => ?_⟩
          by_cases hj : j < n
          · rw [List.getElem?_append_left (by omega)] at e
            exact hP j u e
          · rw [List.getElem?_append_right (by omega)] at e
            have : j = n := by
              have := (List.getElem?_eq_some_iff.mp e).1
              simp at this
              omega
            subst this
            simp [hL] at e
            subst e
            exact ht
      obtain ⟨L, hL, hP⟩ := ex acc.size (Nat.le_refl _)
      have n1 := rv1.length
      have n2 := rv2.length
      have hzip : L.map (·.2) = xs.zip ys := by
        apply List.ext_getElem?
        intro j
        rw [List.getElem?_map]
        cases e : L[j]? with
        | some t =>
          obtain ⟨_, g1, g2, _⟩ := hP j t e
          rw [Option.map_some, List.getElem?_zip_eq_some.mpr ⟨g1, g2⟩]
        | none =>
          have hj : L.length ≤ j := List.getElem?_eq_none_iff.mp e
          rw [Option.map_none, List.getElem?_eq_none]
          rw [List.length_zip, n1, n2]
          simp only [List.size_toArray] at a1
          omega
      have nd : (L.map (·.1)).Nodup := by
        rw [List.nodup_iff_pairwise_ne, List.pairwise_iff_getElem]
        intro i j hi hj hij e
        rw [List.length_map] at hi hj
        simp only [List.getElem_map] at e
        have q1 := (hP i L[i] (by simp [hi])).1
        have q2 := (hP j L[j] (by simp [hj])).1
        rw [e] at q1
        exact absurd (a3 i j _ q1 q2) (by omega)
      have fr : ∀ c, s1.heap.objs.size ≤ c → H1 c = none := fun c hc => I1.hok.fresh hc
      have hl0 : s1.heap.objs.size ≤ h'.objs.size := le5 hsz
      have new : ∀ t ∈ L, s1.heap.objs.size ≤ t.1 ∧ t.1 ≠ h'.objs.size ∧ ∃ u1 u2, RelV t.2.1 u1 ∧ RelV t.2.2 u2 ∧ IsTupOf2 h2 t.1 u1 u2 := fun t ht => by
        obtain ⟨j, hj⟩ := List.mem_iff_getElem?.mp ht
        obtain ⟨_, _, _, c1, c2, c3⟩ := hP j t hj
        exact ⟨c1, c2, c3⟩
      have hlen : L.length ≤ sizeLine := by
        rw [← List.length_map (f := (·.2)), hzip, List.length_zip]
        omega
      have IL : Inv X pins σ (zipH H1 h'.objs.size L) { s1 with heap := h2, toks := tk } := by
        refine inv_laidH I1 keep (fun b u e => ?_) (fun b e hne => ?_) fun b u e0 e => ?_
        · unfold zipH
          have hb : ¬ s1.heap.objs.size ≤ b := fun hle => by
            rw [fr b hle] at e
            cases e
          rw [if_neg (neLe hb hl0)]
          have : L.find? (fun t => t.1 == b) = none := List.find?_eq_none.mpr fun t ht z => by
            have z' : t.1 = b := by simpa using z
            exact hb (z' ▸ (new t ht).1)
          rw [this]
          exact e
        · unfold zipH at hne
          by_cases hb : b = h'.objs.size
          · rw [hb]
            exact hl0
          · rw [if_neg hb] at hne
            cases f : L.find? (fun t => t.1 == b) with
            | none =>
              rw [f] at hne
              exact absurd e hne
            | some t =>
              have z' : t.1 = b := by simpa using List.find?_some f
              exact z' ▸ (new t (List.mem_of_find?_eq_some f)).1
        · unfold zipH at e
          by_cases hb : b = h'.objs.size
          · rw [if_pos hb] at e
            cases e
            subst hb
            refine ⟨by rw [List.length_map]; exact hlen, acc.toList, c', ?_, by rw [Array.toArray_toList]; exact hS⟩
            have : acc.toList = L.map fun t => Value.ref t.1 := by
              apply List.ext_getElem?
              intro j
              rw [List.getElem?_map]
              cases f : L[j]? with
              | some t =>
                rw [Array.getElem?_toList, (hP j t f).1]
                rfl
              | none =>
                have hj : L.length ≤ j := List.getElem?_eq_none_iff.mp f
                rw [Option.map_none, List.getElem?_eq_none]
                rw [Array.length_toList]
                omega
            rw [this]
            clear this hP hL hzip nd new hlen
            induction L with
            | nil => exact .nil
            | cons t L ih => exact .cons rfl ih
          · rw [if_neg hb] at e
            cases f : L.find? (fun t => t.1 == b) with
            | none =>
              rw [f] at e
              rw [e0] at e
              cases e
            | some t =>
              rw [f] at e
              cases e
              have z' : t.1 = b := by simpa using List.find?_some f
              obtain ⟨_, _, u1, u2, r1, r2, hT⟩ := new t (List.mem_of_find?_eq_some f)
              rw [← z']
              exact ⟨by show 2 ≤ sizeLine; rw [sizeLine_eq]; decide, [u1, u2], .cons r1 (.cons r2 .nil), _, hT, rfl, _, rfl⟩
      exact ⟨.ref h'.objs.size, _, IL, rfl, q h'.objs.size L (fr _ hl0) hzip (fun t ht => ⟨fr _ (new t ht).1, (new t ht).2.1⟩) nd⟩
end ZL
set_option Elab.async false
set_option linter.all false
set_option maxRecDepth 100000
set_option maxHeartbeats 4000000
namespace Xv
open PySem PySem.Spec PyProof.Rows L2 Pv
/-! ### a list or a tuple that may be read -/
def ESq (m : Mode) (Y : Fam) (σ : L2.St) (W : Wd) (i : m.ι) (e : Expr) (ds : List PD) (j : m.ι) : Prop :=
  EG m Y σ W i e (fun _ v T => ∃ a vs, v = V.ref a ∧ (∀ T', Le m.M T T' → SqL Y.K T'.H a vs ∨ SqT Y.K T'.H a vs) ∧ DpAll Y.K T.F vs ds) j
def XQ (m : Mode) (Y : Fam) (Γ : Ctx) (i : m.ι) (e : Expr) (ds : List PD) (j : m.ι) : Prop := ∀ W0 σ W, Ag m Y.K W0 Γ σ W → ESq m Y σ W i e ds j
section
variable {m : Mode} {Y : Fam} {Γ : Ctx} {i j k : m.ι} {e a b : Expr} {ds es : List PD} {pos pos2 p p2 : Pos} {α β : Type}
theorem X.qt (h : X m Y Γ i e (.d (.tuple ds)) j) : XQ m Y Γ i e ds j := fun _ _ _ A => EG.imp (h _ _ _ A) fun U v T _ _ _ _ q => by
  obtain ⟨a, vs, e1, e2, e3⟩ := Is.tup q
  exact ⟨a, vs, e1, fun T' l => .inr (sqT_sub T' (Evl.ex_t l.f e2)), e3⟩
theorem XR.q (h : XR m Y Γ i e ds j) : XQ m Y Γ i e ds j := fun _ _ _ A => EG.imp (h _ _ _ A) fun U v T _ _ _ _ ⟨a, vs, e1, e2, e3⟩ => ⟨a, vs, e1, fun T' l => .inl (e2 T' l), e3⟩
theorem xl_listZip (BL : BI Y "list" (.type "list")) (BZ : BI Y "zip" (.type "zip")) (ha : XQ m Y Γ i a ds j) (hb : XQ m Y Γ j b es k) (hs : Se Y a [b] := by intro _; rfl) (hs1 : Se Y b [] := by intro _; rfl) (hpl : Bt Y pos2 [b] := by intro _; rfl)
    (hs2 : Se Y (.Call (.Name "zip" p2) [a, b] [] pos2) [] := by intro _; rfl) : XL m Y Γ i (.Call (.Name "list" p) [.Call (.Name "zip" p2) [a, b] [] pos2] [] pos) ((ds.zip es).map fun r => .tuple [r.1, r.2]) k := fun W0 σ W A U l r Q z =>
  ⟨ZL.tListZip Y.K (wA Y [a, b]), fun t => by
    have h := ZL.pe_listZip (X := Y.X t) (p := p) (p2 := p2) (pos := pos) (pos2 := pos2) (Y.hc t) (BL.g.gl t) (by rw [Y.hmg]; exact BL.m) (BZ.g.gl t) (by rw [Y.hmg]; exact BZ.m) (wA_ok (es := [a, b]) t) (hs t) (hpl t) (hs2 t)
    rw [Y.hK t] at h
    exact h, by
    have hab : EAG m Y σ W i [a, b] _ k := eg_cons (ha _ _ _ A) (eg_cons (hb _ _ _ A) eg_nil hs1) hs
    refine hab U l r _ fun vs T1 l1 r1 ⟨v1, _, Ta, e1, la, ⟨q1, xs, e2, s1, d1⟩, lb, v2, _, Tb, e3, lc, ⟨q2, ys, e4, s2, d2⟩, ld, e5⟩ => ?_
    subst e1 e2 e3 e4 e5
    refine ⟨q1, q2, xs, ys, rfl, s1 T1 lb, s2 T1 ld, fun q L hq hL hn hnd => ?_⟩
    have fnd : ∀ t ∈ L, L.find? (fun u => u.1 == t.1) = some t := fun t ht => by
      cases f : L.find? (fun u => u.1 == t.1) with
      | none => exact absurd (List.find?_eq_none.mp f t ht) (by simp)
      | some u =>
        have e : u.1 = t.1 := by simpa using List.find?_some f
        have hu := List.mem_of_find?_eq_some f
        obtain ⟨i1, hi1⟩ := List.mem_iff_getElem?.mp ht
        obtain ⟨i2, hi2⟩ := List.mem_iff_getElem?.mp hu
        have g1 : (L.map (·.1))[i1]? = some t.1 := by rw [List.getElem?_map, hi1] <;> rfl
        have g2 : (L.map (·.1))[i2]? = some t.1 := by rw [List.getElem?_map, hi2] <;> (show some u.1 = _; rw [e])
        have := (List.getElem?_inj (List.getElem?_eq_some_iff.mp g1).1 hnd).mp (g1.trans g2.symm)
        subst this
        rw [hi1] at hi2
        exact hi2.symm ▸ rfl
    have off : ∀ b', T1.H b' ≠ none → b' ≠ q ∧ L.find? (fun t => t.1 == b') = none := fun b' hb' => ⟨fun w => hb' (w ▸ hq), List.find?_eq_none.mpr fun t ht w => hb' (by
      have w' : t.1 = b' := by simpa using w
      rw [← w']
      exact (hn t ht).1)⟩
    have hH : ∀ b' u, T1.H b' = some u → ZL.zipH T1.H q L b' = some u := fun b' u e => by
      obtain ⟨o1, o2⟩ := off b' (by rw [e]; exact fun w => nomatch w)
      unfold ZL.zipH
      rw [if_neg o1, o2]
      exact e
    let F' : Hp := fun b' => match L.find? (fun t => t.1 == b') with
      | some t => some (.tup [t.2.1, t.2.2])
      | none => T1.F b'
    have hF : ∀ b' u, T1.F b' = some u → F' b' = some u := fun b' u e => by
      obtain ⟨o1, o2⟩ := off b' (by rw [T1.sub b' u e]; exact fun w => nomatch w)
      show (match L.find? (fun t => t.1 == b') with | some t => some (HO.tup [t.2.1, t.2.2]) | none => T1.F b') = some u
      rw [o2]
      exact e
    let T2 : Wd := ⟨F', ZL.zipH T1.H q L, fun b' u e => by
      have e' : (match L.find? (fun t => t.1 == b') with | some t => some (HO.tup [t.2.1, t.2.2]) | none => T1.F b') = some u := e
      cases f : L.find? (fun t => t.1 == b') with
      | some t =>
        rw [f] at e'
        have hb' : t.1 = b' := by simpa using List.find?_some f
        unfold ZL.zipH
        rw [if_neg (by rw [← hb']; exact (hn t (List.mem_of_find?_eq_some f)).2), f]
        exact e'
      | none =>
        rw [f] at e'
        exact hH b' u (T1.sub b' u e')⟩
    have l2 : Le M0 T1 T2 := ⟨hF, fun b' u _ e => hH b' u e, fun b' e hb' => by
      show (match L.find? (fun t => t.1 == b') with | some t => some (HO.tup [t.2.1, t.2.2]) | none => T1.F b') = none
      rw [(off b' hb').2]
      exact e, fun b' hb' => by
      cases e : T1.H b' with
      | none => exact absurd e hb'
      | some u =>
        show ZL.zipH T1.H q L b' ≠ none
        rw [hH b' u e]
        exact fun w => nomatch w⟩
    have d1' := d1.mono lb.f
    have d2' := d2.mono ld.f
    refine z (.ref q) T2 (l1.trans l2.of0) (m.le0 r1 l2) ⟨q, _, rfl, l1.back hq, ?_, (by show ZL.zipH T1.H q L q = _; unfold ZL.zipH; rw [if_pos rfl]), ?_⟩
    · show (match L.find? (fun t => t.1 == q) with | some t => some (HO.tup [t.2.1, t.2.2]) | none => T1.F q) = none
      have : L.find? (fun t => t.1 == q) = none := List.find?_eq_none.mpr fun t ht w => (hn t ht).2 (by simpa using w)
      rw [this]
      exact T1.fnone hq
    · have key : ∀ (L' : List (Addr × V × V)) (xs ys : List V) (ds es : List PD), (∀ t ∈ L', t ∈ L) → L'.map (·.2) = xs.zip ys → DpAll Y.K T1.F xs ds → DpAll Y.K T1.F ys es → DpAll Y.K T2.F (L'.map fun t => V.ref t.1) ((ds.zip es).map fun r => .tuple [r.1, r.2]) := by
        intro L'
        induction L' with
        | nil =>
          intro xs ys ds es _ h1 h2 h3
          have h1' : xs.zip ys = [] := by rw [← h1] <;> rfl
          have : (ds.zip es) = [] := by
            apply List.eq_nil_of_length_eq_zero
            have := congrArg List.length h1'
            rw [List.length_zip, List.length_nil] at this
            rw [List.length_zip, ← h2.len, ← h3.len]
            exact this
          rw [this]
          exact .nil
        | cons t L' ih =>
          intro xs ys ds es hm h1 h2 h3
          cases h2 with
          | nil => simp at h1
          | cons ax bx =>
            cases h3 with
            | nil => simp at h1
            | cons ay bY =>
              rw [List.map_cons, List.zip_cons_cons] at h1
              have h1a : t.2 = _ := (List.cons.inj h1).1
              rw [List.zip_cons_cons, List.map_cons, List.map_cons]
              refine .cons ?_ (ih _ _ _ _ (fun u hu => hm u (List.mem_cons_of_mem _ hu)) (List.cons.inj h1).2 bx bY)
              have ht : T2.F t.1 = some (.tup [t.2.1, t.2.2]) := by
                show (match L.find? (fun u => u.1 == t.1) with | some t => some (HO.tup [t.2.1, t.2.2]) | none => T1.F t.1) = _
                rw [fnd t (hm t List.mem_cons_self)]
              rw [h1a] at ht
              exact Dp.tup (SqT.of ht) (.cons (ax.mono hF) (.cons (ay.mono hF) .nil))
      exact key L xs ys ds es (fun t ht => ht) hL d1' d2'⟩
/-- .. typed -/
theorem xl_listZipE {xs : List α} {ys : List β} {f : α → PD} {g : β → PD} (BL : BI Y "list" (.type "list")) (BZ : BI Y "zip" (.type "zip")) (ha : XQ m Y Γ i a (xs.map f) j) (hb : XQ m Y Γ j b (ys.map g) k) (hs : Se Y a [b] := by intro _; rfl) (hs1 : Se Y b [] := by intro _; rfl) (hpl : Bt Y pos2 [b] := by intro _; rfl)
    (hs2 : Se Y (.Call (.Name "zip" p2) [a, b] [] pos2) [] := by intro _; rfl) : XL m Y Γ i (.Call (.Name "list" p) [.Call (.Name "zip" p2) [a, b] [] pos2] [] pos) ((xs.zip ys).map fun r => .tuple [f r.1, g r.2]) k := by
  have h := xl_listZip (p := p) (p2 := p2) (pos := pos) (pos2 := pos2) BL BZ ha hb hs hs1 hpl hs2
  have e : (((xs.map f).zip (ys.map g)).map fun r => PyData.tuple [r.1, r.2]) = (xs.zip ys).map fun r => .tuple [f r.1, g r.2] := by
    rw [List.zip_map, List.map_map]
    rfl
  rw [e] at h
  exact h
end
end Xv
set_option Elab.async false
set_option linter.all false
set_option maxRecDepth 100000
set_option maxHeartbeats 4000000
/-! data: sorted, min, order, membership -/
namespace SD
open PySem PySem.Spec PyProof.Rows L2 PySem.W
/-- what may be sorted -/
def Srt (ds : List PyData) : Prop := ds.length ≤ 1 ∨ (AllAlike ds ∧ Sortable ds)
def sortD (ds : List PyData) : List PyData := ds.mergeSort (dataLe false id)
section
variable {X : Cx} {pins : List (Addr × Obj)} {σ : L2.St} {H : Hp} {s : Shared}
theorem each_pairs : ∀ {xs : List V} {us : List Value} {ds : List PyData}, Vals xs us → xs.length = ds.length → EachIs (fun (v : Value) (p : V × PyData) => RelV p.1 v) us (xs.zip ds)
  | _, _, ds, .nil, _ => by
    simp only [List.zip_nil_left]
    exact .nil
  | _, _, [], .cons _ _, h => by simp at h
  | _, _, d :: ds, .cons r t, h => by
    rw [List.zip_cons_cons]
    exact .cons r (each_pairs t (by simpa using h))
theorem each_reads (I : Inv X pins σ H s) : ∀ {xs : List V} {us : List Value} {ds : List PyData}, Vals xs us → DpAll X.K H xs ds → EachIs (fun (v : Value) (p : V × PyData) => ∃ as, Reads s.heap v p.2 as) us (xs.zip ds)
  | _, _, _, .nil, .nil => .nil
  | _, _, _, .cons r t, .cons h h' => by
    rw [List.zip_cons_cons]
    exact .cons (Dp.reads I _ _ _ h r) (each_reads I t h')
theorem each_vals : ∀ {us : List Value} {ps : List (V × PyData)}, EachIs (fun (v : Value) (p : V × PyData) => RelV p.1 v) us ps → Vals (ps.map (·.1)) us
  | _, _, .nil => .nil
  | _, _, .cons r t => .cons r (each_vals t)
theorem dp_mem {K : PySem.W.Frag} {F : Hp} : ∀ {xs : List V} {ds : List PyData}, DpAll K F xs ds → ∀ p ∈ xs.zip ds, Dp K F p.1 p.2
  | _, _, .nil, p, h => by simp at h
  | _, _, .cons a b, p, h => by
    rw [List.zip_cons_cons] at h
    rcases List.mem_cons.mp h with rfl | h
    · exact a
    · exact dp_mem b p h
theorem dp_of {K : PySem.W.Frag} {F : Hp} : ∀ {ps : List (V × PyData)}, (∀ p ∈ ps, Dp K F p.1 p.2) → DpAll K F (ps.map (·.1)) (ps.map (·.2))
  | [], _ => .nil
  | p :: ps, h => .cons (h p List.mem_cons_self) (dp_of fun q hq => h q (List.mem_cons_of_mem _ hq))
theorem zip_snd {α β : Type} : ∀ {xs : List α} {ys : List β}, xs.length = ys.length → (xs.zip ys).map (·.2) = ys
  | [], [], _ => rfl
  | _ :: _, _ :: _, h => by rw [List.zip_cons_cons, List.map_cons, zip_snd (by simpa using h)]
  | [], _ :: _, h => by simp at h
  | _ :: _, [], h => by simp at h
def rSortD (K : PySem.W.Frag) : List V → Hp → VK → Prop := fun vs H Q => ∃ (a : Addr) (xs : List V) (ds : List PyData), vs = [.ref a] ∧ SqL K H a xs ∧ DpAll K H xs ds ∧ Srt ds ∧ (∀ d ∈ ds, d.depth ≤ 50) ∧
  ∀ (ps : List (V × PyData)) (q : Addr), (∀ p ∈ ps, p ∈ xs.zip ds) → ps.map (·.2) = sortD ds → H q = none → Q (.ref q) (upd H q (.lst (ps.map (·.1))))
theorem cr_sortD (hu : X.A.units + 60 < cLine) : CallR X (.builtin "sorted") (rSortD X.K) := by
  intro pins s σ H vs us Q I r h
  obtain ⟨a, xs, ds, rfl, hs, hd, hk, hdep, q⟩ := h
  rw [Vals.ref1 r]
  obtain ⟨its, rv, hl, hz⟩ := I.list hs
  have hlen := hd.len
  have fin : ∀ (out : List Value) (ps : List (V × PyData)), EachIs (fun (v : Value) (p : V × PyData) => RelV p.1 v) out ps → (∀ p ∈ ps, p ∈ xs.zip ds) → ps.length = xs.length → ps.map (·.2) = sortD ds →
      EP X pins σ Q (.ref (s.heap.objs.size + 1)) { s with heap := sortedAll s.heap its (List.toArray out) } := fun out ps e hp hl2 hd2 => by
    obtain ⟨ep, he'⟩ := PyProof.Rows.sortedAll_at s.heap its out.toArray
    exact ⟨.ref _, upd H (s.heap.objs.size + 1) (.lst (ps.map (·.1))), I.laid (t' := s.toks) (fun _ _ => PyProof.Rows.sortedAll_old) (Nat.le_succ _) ⟨by rw [List.length_map, hl2]; exact hz, out, ep, each_vals e, he'⟩, rfl, q ps _ hp hd2 (I.hok.fresh (Nat.le_succ _))⟩
  have mp : ∀ (bs : List (V × PyData)), bs.map (·.2) = ds → (bs.mergeSort (dataLe false (·.2))).map (·.2) = sortD ds := fun bs e => by
    unfold sortD
    rw [← e]
    exact List.map_mergeSort fun _ _ _ _ => rfl
  rcases hk with h1 | ⟨h1, h2⟩
  · refine SrtO.sorted_ord (ltv := fun _ _ => false) ⟨fun _ _ h => (nomatch h), fun _ _ _ _ _ => rfl⟩ hl.isList (by rw [← rv.length]; exact hz) (fun h2 => absurd h2 (by rw [← rv.length, hlen]; omega)) fun out _ hb => ?_
    have e : out = its := by
      have p := hb.perm
      have hl1 : its.length ≤ 1 := by rw [← rv.length, hlen]; exact h1
      match its, hl1, p with
      | [], _, p => exact p.eq_nil
      | [u], _, p => exact p.eq_singleton
      | _ :: _ :: _, h, _ => simp at h
    subst e
    refine fin out (xs.zip ds) (each_pairs rv hlen) (fun p hp => hp) (by rw [List.length_zip, hlen, Nat.min_self]) ?_
    rw [zip_snd hlen]
    unfold sortD
    match ds, h1 with
    | [], _ => simp
    | [d], _ => simp
    | _ :: _ :: _, h => simp at h
  · refine sorted_data (bs := xs.zip ds) (enc := (·.2)) (R := fun v p => RelV p.1 v) hl.isList (each_pairs rv hlen) (each_reads I rv hd) (by rw [zip_snd hlen]; exact h1) (by rw [zip_snd hlen]; exact h2) (by rw [List.length_zip, hlen, Nat.min_self, ← hlen]; exact hz)
      (fun p hp => ?_) fun out ho he => ?_
    · have := hdep p.2 (by rw [← zip_snd hlen]; exact List.mem_map.mpr ⟨p, hp, rfl⟩)
      show X.A.units + 2 + p.2.depth < cLine
      omega
    · refine fin out _ he (fun p hp => (List.mergeSort_perm _ _).mem_iff.mp hp) ?_ (mp _ (zip_snd hlen))
      rw [List.length_mergeSort, List.length_zip, hlen, Nat.min_self]
end
end SD
namespace SD
open PySem PySem.Spec PyProof.Rows L2 PySem.W
section
variable {X : Cx}
def rCmpD (K : PySem.W.Frag) (g : PyData → PyData → Bool) : R2 := fun x y H Q => ∃ d e, Dp K H x d ∧ Dp K H y e ∧ alike d e = true ∧ d ≠ .none ∧ d.depth ≤ 50 ∧ Q (.bl (g d e)) H
theorem op_ltD (hu : X.A.units + 60 < cLine) : OpR X (compareOp .Lt) (rCmpD X.K fun d e => dataLt d e) := by
  intro pins s σ H x y u v Q I rx ry ⟨d, e, h1, h2, h3, h4, h5, q⟩
  obtain ⟨as, ra⟩ := Dp.reads I d x u h1 rx
  obtain ⟨bs, rb⟩ := Dp.reads I e y v h2 ry
  exact lt_data ra rb h3 h4 (by have := Nat.min_le_left d.depth e.depth; omega) ⟨.bl _, H, I, rfl, q⟩
theorem op_gtD (hu : X.A.units + 60 < cLine) : OpR X (compareOp .Gt) (rCmpD X.K fun d e => dataLt e d) := by
  intro pins s σ H x y u v Q I rx ry ⟨d, e, h1, h2, h3, h4, h5, q⟩
  obtain ⟨as, ra⟩ := Dp.reads I d x u h1 rx
  obtain ⟨bs, rb⟩ := Dp.reads I e y v h2 ry
  exact gt_data ra rb h3 h4 (by have := Nat.min_le_left d.depth e.depth; omega) ⟨.bl _, H, I, rfl, q⟩
theorem op_leD (hu : X.A.units + 60 < cLine) : OpR X (compareOp .LtE) (rCmpD X.K fun d e => !dataLt e d) := by
  intro pins s σ H x y u v Q I rx ry ⟨d, e, h1, h2, h3, h4, h5, q⟩
  obtain ⟨as, ra⟩ := Dp.reads I d x u h1 rx
  obtain ⟨bs, rb⟩ := Dp.reads I e y v h2 ry
  exact le_data ra rb h3 h4 (by have := Nat.min_le_left d.depth e.depth; omega) ⟨.bl _, H, I, rfl, q⟩
theorem op_geD (hu : X.A.units + 60 < cLine) : OpR X (compareOp .GtE) (rCmpD X.K fun d e => !dataLt d e) := by
  intro pins s σ H x y u v Q I rx ry ⟨d, e, h1, h2, h3, h4, h5, q⟩
  obtain ⟨as, ra⟩ := Dp.reads I d x u h1 rx
  obtain ⟨bs, rb⟩ := Dp.reads I e y v h2 ry
  exact ge_data ra rb h3 h4 (by have := Nat.min_le_left d.depth e.depth; omega) ⟨.bl _, H, I, rfl, q⟩
/-- min of a tuple of whole numbers -/
def rMinT (K : PySem.W.Frag) : List V → Hp → VK → Prop := fun vs H Q => ∃ (a : Addr) (n : Int) (ns : List Int), vs = [.ref a] ∧ SqT K H a ((n :: ns).map V.int) ∧ Q (.int (ns.foldl min n)) H
theorem alikeAll_ints (n : Int) (ns : List Int) : AlikeAll ((n :: ns).map PyData.int) := by
  refine ⟨fun d hd d' hd' => ?_, fun d hd => ?_⟩
  · obtain ⟨a, _, rfl⟩ := List.mem_map.mp hd
    obtain ⟨b, _, rfl⟩ := List.mem_map.mp hd'
    simp [alike]
  · obtain ⟨a, _, rfl⟩ := List.mem_map.mp hd
    exact fun z => nomatch z
theorem dp_ints0 {K : PySem.W.Frag} {H : Hp} : ∀ ns : List Int, DpAll K H (ns.map V.int) (ns.map PyData.int)
  | [] => .nil
  | n :: ns => .cons (.int n) (dp_ints0 ns)
theorem cr_minT (hc : X.calm = true) (hu : X.A.units + 60 < cLine) : CallR X (.builtin "min") (rMinT X.K) := by
  intro pins s σ H vs us Q I r h
  obtain ⟨a, n, ns, rfl, hs, q⟩ := h
  rw [Vals.ref1 r]
  obtain ⟨its, rv, hl, hz⟩ := I.tuple hs
  obtain ⟨as, hr⟩ := Dp.readsAll I ((n :: ns).map PyData.int) _ its (dp_ints0 (n :: ns)) rv
  refine min_tuple_data (I.ok.hd hc) (show s.heap.IsTuple a its.toArray from hl) (x := .int n) (xs := ns.map .int) hr (alikeAll_ints n ns) (by
    have := depth_ints (n :: ns)
    rw [List.map_cons] at this
    rw [this]
    omega) fun i v h' tk bs hv rd hk => ?_
  rw [minD_ints] at rd
  cases rd
  exact ⟨.int _, H, I.kept hk, ⟨_, rfl⟩, q⟩
end
end SD
set_option Elab.async false
set_option linter.all false
set_option maxRecDepth 100000
set_option maxHeartbeats 4000000
namespace Xv
open PySem PySem.Spec PyProof.Rows L2 Pv
section
variable {m : Mode} {Y : Fam} {Γ : Ctx} {i j k : m.ι} {e a b : Expr} {ds es : List PD} {d d' : PD} {pos pos2 p p2 : Pos} {α β : Type}
/-- a new list tracked as such -/
def XN (m : Mode) (Y : Fam) (Γ : Ctx) (i : m.ι) (e : Expr) (ds : List PD) (j : m.ι) : Prop := ∀ W0 σ W, Ag m Y.K W0 Γ σ W → EG m Y σ W i e (fun _ v T => ∃ a vs, v = V.ref a ∧ (∀ T', Le m.M T T' → T'.H a = some (.lst vs)) ∧ DpAll Y.K T.F vs ds) j
theorem XL.n (h : XL m Y Γ i e ds j) : XN m Y Γ i e ds j := fun _ _ _ A => EG.imp (h _ _ _ A) fun U v T _ r _ _ ⟨p, vs, e1, e2, _, e4, e5⟩ => ⟨p, vs, e1, fun T' l => l.h p _ (m.nm r e2) e4, e5⟩
theorem xn_v {s : Str} (h : (Y.N.zip Γ).lookup s = some (.l ds) := by rfl) (hv : visB Y.sc s = true := by rfl) (hd : (s == ("__debug__" : Str)) = false := by decide) (hcd : (s == ("__classdict__" : Str)) = false := by decide) : XN m Y Γ i (.Name s pos) ds i := fun W0 σ W A => by
  obtain ⟨n, h1, h2⟩ := zip_look h
  obtain ⟨q, h3, h4, _, h5⟩ := A.ok n _ h2
  exact EG.imp (e_at h1 (vis_of hv) h3 hd hcd) fun U v T h1 _ h2 _ e => by
    obtain ⟨_, vs, e2, e3⟩ := h4.le (h1.trans h2) h5
    exact ⟨q, vs, e, fun T' l => l.h q _ h5 e2, e3⟩
theorem xl_cat (ha : XN m Y Γ i a ds j) (hb : XN m Y Γ j b es k) (hl : ds.length + es.length ≤ 100000) : XL m Y Γ i (.BinOp a .Add b pos) (ds ++ es) k := fun W0 σ W A U l r Q z =>
  ⟨_, fun t => pe_op op_cat (wE_ok t) (wE_ok t), ha _ _ _ A U l r _ fun v1 T1 l1 r1 ⟨q1, xs, e1, h1, d1⟩ => hb _ _ _ A T1 (l.trans l1) r1 _ fun v2 T2 l2 r2 ⟨q2, ys, e2, h2, d2⟩ => by
    refine ⟨q1, q2, xs, ys, e1, e2, h1 T2 l2, h2 T2 (Le.refl T2), Evl.sz_of (by rw [d1.len, d2.len]; exact hl), fun q hq => ?_⟩
    exact z (.ref q) (T2.own q _ hq) ((l1.trans l2).trans (Le.own hq)) (m.le0 r2 (Le.own hq)) ⟨q, _, rfl, (l1.trans l2).back hq, T2.fnone hq, upd_same, (d1.mono l2.f).app d2⟩⟩
/-! sorted, order, membership -/
theorem xl_sortD (B : BI Y "sorted" (.builtin "sorted")) (ha : XR m Y Γ i e ds j) (hk : SD.Srt ds) (hd : ∀ d ∈ ds, d.depth ≤ 50) (he : Se Y e [] := by intro _; rfl) (hpl : Bt Y pos [] := by intro _; rfl) : XL m Y Γ i (.Call (.Name "sorted" p) [e] [] pos) (SD.sortD ds) j := fun W0 σ W A U l r Q z =>
  ⟨tCB (SD.rSortD Y.K) (tCons (wE Y e) tNil), fun t => by
    have h := SD.cr_sortD (X := Y.X t) (by have := Y.units t; omega)
    rw [Y.hK t] at h
    exact pe_callB h (B.g.gl t) (by rw [Y.hmg]; exact B.m) B.v (pa_cons (wE_ok t) pa_nil (he t)) (by decide) (by decide) (he t) (hpl t), ha _ _ _ A U l r _ fun v T l1 r1 ⟨q, us, e1, e2, e3⟩ => by
    subst e1
    refine ⟨q, us, ds, rfl, e2 T (Le.refl T), e3.mono T.sub, hk, hd, fun ps q' hp hs hq => ?_⟩
    refine z (.ref q') (T.own q' _ hq) (l1.trans (Le.own hq)) (m.le0 r1 (Le.own hq)) ⟨q', _, rfl, l1.back hq, T.fnone hq, upd_same, ?_⟩
    rw [← hs]
    exact SD.dp_of fun p hpp => (SD.dp_mem e3 p (hp p hpp) : Dp Y.K T.F p.1 p.2)⟩
theorem c'_cmpD {op : CmpOp} {g : PD → PD → Bool} (ho : ∀ X : Cx, X.A.units + 60 < cLine → OpR X (compareOp op) (SD.rCmpD X.K g)) (ha : X m Y Γ i a (.d d) j) (hb : X m Y Γ j b (.d d') k) (h1 : PySem.W.alike d d' = true) (h2 : d ≠ .none) (h3 : d.depth ≤ 50) (hm : behindInMarks op b = false) : XC m Y Γ i (.Compare a [op] [b] pos) (g d d') k := fun _ _ _ A U l r Q q =>
  ⟨tOp (SD.rCmpD Y.K g) _ _, fun t => cmpR (by have h := ho (Y.X t) (by have := Y.units t; omega); rw [Y.hK t] at h; exact h) (wE_ok t) (wE_ok t) hm, ha _ _ _ A U l r _ fun v1 T1 l1 r1 p1 => hb _ _ _ A T1 (l.trans l1) r1 _ fun v2 T2 l2 r2 p2 =>
    ⟨d, d', dp_sub T2 (Dp.mono l2.f p1), dp_sub T2 p2, h1, h2, h3, q _ T2 (l1.trans l2) r2 (Dp.bl _)⟩⟩
theorem c'_geD (ha : X m Y Γ i a (.d d) j) (hb : X m Y Γ j b (.d d') k) (h1 : PySem.W.alike d d' = true) (h2 : d ≠ .none) (h3 : d.depth ≤ 50) : XC m Y Γ i (.Compare a [.GtE] [b] pos) (!PySem.W.dataLt d d') k := c'_cmpD (fun _ => SD.op_geD) ha hb h1 h2 h3 (nomark _)
theorem c'_ltD (ha : X m Y Γ i a (.d d) j) (hb : X m Y Γ j b (.d d') k) (h1 : PySem.W.alike d d' = true) (h2 : d ≠ .none) (h3 : d.depth ≤ 50) : XC m Y Γ i (.Compare a [.Lt] [b] pos) (PySem.W.dataLt d d') k := c'_cmpD (fun _ => SD.op_ltD) ha hb h1 h2 h3 (nomark _)
theorem c'_leD (ha : X m Y Γ i a (.d d) j) (hb : X m Y Γ j b (.d d') k) (h1 : PySem.W.alike d d' = true) (h2 : d ≠ .none) (h3 : d.depth ≤ 50) : XC m Y Γ i (.Compare a [.LtE] [b] pos) (!PySem.W.dataLt d' d) k := c'_cmpD (fun _ => SD.op_leD) ha hb h1 h2 h3 (nomark _)
/-- min of a tuple of numbers -/
theorem x_minT {n : Int} {ns : List Int} (B : BI Y "min" (.builtin "min")) (ha : X m Y Γ i e (.d (.tuple ((n :: ns).map .int))) j) (he : Se Y e [] := by intro _; rfl) (hpl : Bt Y pos [] := by intro _; rfl) : X m Y Γ i (.Call (.Name "min" p) [e] [] pos) (.d (.int (ns.foldl min n))) j := fun W0 σ W A U l r Q z =>
  ⟨tCB (SD.rMinT Y.K) (tCons (wE Y e) tNil), fun t => by
    have h := SD.cr_minT (X := Y.X t) (Y.hc t) (by have := Y.units t; omega)
    rw [Y.hK t] at h
    exact pe_callB h (B.g.gl t) (by rw [Y.hmg]; exact B.m) B.v (pa_cons (wE_ok t) pa_nil (he t)) (by decide) (by decide) (he t) (hpl t), ha _ _ _ A U l r _ fun v T l1 r1 h => by
    obtain ⟨q, us, e1, e2, e3⟩ := Is.tup h
    have e4 := e3.ints
    subst e1 e4
    exact ⟨q, n, ns, rfl, sqT_sub T e2, z _ T l1 r1 (Dp.int _)⟩⟩
theorem foldl_min_mem (n : Int) (ns : List Int) : ns.foldl min n ∈ n :: ns ∧ ∀ y ∈ n :: ns, ns.foldl min n ≤ y := by
  induction ns generalizing n with
  | nil => simp
  | cons x ns ih =>
    rw [List.foldl_cons]
    obtain ⟨h1, h2⟩ := ih (min n x)
    constructor
    · rcases List.mem_cons.mp h1 with h | h
      · rw [h]
        by_cases c : n ≤ x
        · rw [Int.min_eq_left c]
          simp
        · rw [Int.min_eq_right (by omega)]
          simp
      · exact List.mem_cons_of_mem _ (List.mem_cons_of_mem _ h)
    · intro y hy
      have h3 := h2 (min n x) List.mem_cons_self
      rcases List.mem_cons.mp hy with rfl | hy
      · have := Int.min_le_left y x
        omega
      · rcases List.mem_cons.mp hy with rfl | hy
        · have := Int.min_le_right n y
          omega
        · exact h2 y (List.mem_cons_of_mem _ hy)
theorem x_minL {n : Int} {ns : List Int} (B : BI Y "min" (.builtin "min")) (ha : XR m Y Γ i e ((n :: ns).map .int) j) (he : Se Y e [] := by intro _; rfl) (hpl : Bt Y pos [] := by intro _; rfl) : X m Y Γ i (.Call (.Name "min" p) [e] [] pos) (.d (.int (ns.foldl min n))) j := x_minR B ha (foldl_min_mem n ns).1 (foldl_min_mem n ns).2 he hpl
/-- a datum in a list of data -/
theorem c'_inD (ha : X m Y Γ i a (.d d) j) (hb : XR m Y Γ j b ds k) (h1 : SeqAt.shaped d = true) (h2 : SeqAt.shaped (.list ds) = true) (hm : behindInMarks .In b = false := by rfl) : XC m Y Γ i (.Compare a [.In] [b] pos) (ds.any fun z => PyData.eqv z d) k := fun _ _ _ A U l r Q q =>
  ⟨tOp (rInD Y.K) _ _, fun t => cmpR (by have h := op_inD (X := Y.X t) (by have := (Y.hr t).r.un; omega); rw [Y.hK t] at h; exact h) (wE_ok t) (wE_ok t) hm, ha _ _ _ A U l r _ fun v1 T1 l1 r1 p1 => hb _ _ _ A T1 (l.trans l1) r1 _ fun v2 T2 l2 r2 ⟨q2, us, e1, e2, e3⟩ => by
    subst e1
    exact ⟨d, ds, dp_sub T2 (Dp.mono l2.f p1), Dp.ofR (e2 T2 (Le.refl T2)) e3, h1, h2, q _ T2 (l1.trans l2) r2 (Dp.bl _)⟩⟩
theorem c'_notinD (ha : X m Y Γ i a (.d d) j) (hb : XR m Y Γ j b ds k) (h1 : SeqAt.shaped d = true) (h2 : SeqAt.shaped (.list ds) = true) (hm : behindInMarks .NotIn b = false := by rfl) : XC m Y Γ i (.Compare a [.NotIn] [b] pos) (!ds.any fun z => PyData.eqv z d) k := fun _ _ _ A U l r Q q =>
  ⟨tOp (rNotInD Y.K) _ _, fun t => cmpR (by have h := op_notInD (X := Y.X t) (by have := (Y.hr t).r.un; omega); rw [Y.hK t] at h; exact h) (wE_ok t) (wE_ok t) hm, ha _ _ _ A U l r _ fun v1 T1 l1 r1 p1 => hb _ _ _ A T1 (l.trans l1) r1 _ fun v2 T2 l2 r2 ⟨q2, us, e1, e2, e3⟩ => by
    subst e1
    exact ⟨d, ds, dp_sub T2 (Dp.mono l2.f p1), Dp.ofR (e2 T2 (Le.refl T2)) e3, h1, h2, q _ T2 (l1.trans l2) r2 (Dp.bl _)⟩⟩
/-- repr of a tuple -/
theorem x_reprT (B : BI Y "repr" (.builtin "repr")) (ha : X m Y Γ i e (.d (.tuple ds)) j) (h : Nz 64 1048576 (.tuple ds)) (he : Se Y e [] := by intro _; rfl) : X m Y Γ i (.Call (.Name "repr" p) [e] [] pos) (.d (.str (PyData.tuple ds).shown)) j := fun W0 σ W A => e_cb B (fun a => by
      have h := call_reprD (X := Y.X a) (Y.hr a).g (by have := (Y.hr a).r.un; omega)
      rw [Y.hK a] at h
      exact h) (ea_cons (ha _ _ _ A) ea_nil he) (fun T vs Q hh z => by
  obtain ⟨v, rfl, h5⟩ := hh.inv1
  obtain ⟨q, us, rfl, e2, e3⟩ := Is.tup h5
  exact ⟨q, _, rfl, dp_sub T (Dp.tup e2 e3), h.show_, h.nd, h.sh.2, h.fits, z _ T (Le.refl T) (Dp.str _)⟩) (he := he)
end
end Xv
set_option Elab.async false
set_option linter.all false
set_option maxRecDepth 100000
set_option maxHeartbeats 4000000
namespace Xv
open PySem PySem.Spec PyProof.Rows L2 Pv
def prI (p : Int × Int) : PD := .tuple [.int p.1, .int p.2]
section
variable {m : Mode} {Y : Fam} {Γ : Ctx} {i j k : m.ι} {e a b : Expr} {ds es : List PD} {d d' : PD} {pos pos2 p p2 : Pos} {α β : Type}
theorem refs_of {K : PySem.W.Frag} {F : Hp} : ∀ {us : List V} {ps : List (Int × Int)}, DpAll K F us (ps.map prI) → ∃ ks : List (Addr × List Int), us = ks.map (fun q => V.ref q.1) ∧ ks.map (·.2) = ps.map (fun p => [p.1, p.2]) ∧ ∀ q ∈ ks, SqT K F q.1 (q.2.map V.int)
  | _, [], .nil => ⟨[], rfl, rfl, fun q hq => nomatch hq⟩
  | _, p :: ps, .cons h t => by
    obtain ⟨ks, h1, h2, h3⟩ := refs_of t
    have h' : Is K F _ (.d (.tuple [.int p.1, .int p.2])) := h
    obtain ⟨a, vs, e1, e2, e3⟩ := Is.tup h'
    have e4 : vs = [p.1, p.2].map V.int := DpAll.ints (ns := [p.1, p.2]) e3
    subst e1 e4
    refine ⟨(a, [p.1, p.2]) :: ks, by rw [List.map_cons, ← h1], by rw [List.map_cons, List.map_cons, h2], fun q hq => ?_⟩
    rcases List.mem_cons.mp hq with rfl | hq
    · exact e2
    · exact h3 q hq
theorem dp_pairs {K : PySem.W.Frag} {F : Hp} : ∀ {ks : List (Addr × List Int)} {ps : List (Int × Int)}, (∀ q ∈ ks, SqT K F q.1 (q.2.map V.int)) → ks.map (·.2) = ps.map (fun p => [p.1, p.2]) → DpAll K F (ks.map fun q => V.ref q.1) (ps.map prI)
  | [], [], _, _ => .nil
  | [], _ :: _, _, h => by simp at h
  | _ :: _, [], _, h => by simp at h
  | q :: ks, p :: ps, h, e => by
    rw [List.map_cons, List.map_cons] at e
    have e1 := (List.cons.inj e).1
    refine .cons (Dp.tup (h q List.mem_cons_self) ?_) (dp_pairs (fun r hr => h r (List.mem_cons_of_mem _ hr)) (List.cons.inj e).2)
    have e1' : q.2 = [p.1, p.2] := e1
    rw [e1']
    exact dpInts [p.1, p.2]
/-- sorted(set(pairs)), the pairs below 64 -/
theorem xl_sortSet {ps M : List (Int × Int)} (B : BI Y "sorted" (.builtin "sorted")) (BS : BI Y "set" (.type "set")) (ha : XR m Y Γ i e (ps.map prI) j) (hl : ps.length < 64) (hb : ∀ p ∈ ps, 0 ≤ p.1 ∧ p.1 < 64 ∧ 0 ≤ p.2 ∧ p.2 < 64)
    (hM : ∀ p, p ∈ M ↔ p ∈ ps) (hn : M.Nodup) (hs : M.Pairwise fun p q => p.1 * 64 + p.2 ≤ q.1 * 64 + q.2)
    (he : Se Y e [] := by intro _; rfl) (hpl : Bt Y pos2 [] := by intro _; rfl) (he2 : Se Y (.Call (.Name "set" p2) [e] [] pos2) [] := by intro _; rfl) (hpl2 : Bt Y pos [] := by intro _; rfl) : XL m Y Γ i (.Call (.Name "sorted" p) [.Call (.Name "set" p2) [e] [] pos2] [] pos) (M.map prI) j := fun W0 σ W A U l r Q z =>
  ⟨tCB (rSortedT Y.K Y.P Y.w) (tCons (tCB (rSetOfT Y.K Y.P Y.w) (tCons (wE Y e) tNil)) tNil), fun t => by
    have h1 := cr_sortedT (X := Y.X t) (Y.hc t)
    have h2 := cr_setOfT (X := Y.X t) (Y.hc t) (Y.units t)
    rw [Y.hK t, Y.hP t, Y.hw t] at h1 h2
    exact pe_callB h1 (B.g.gl t) (by rw [Y.hmg]; exact B.m) B.v (pa_cons (pe_callTy h2 (BS.g.gl t) (by rw [Y.hmg]; exact BS.m) BS.v (pa_cons (wE_ok t) pa_nil (he t)) (by decide) (by decide) (he t) (hpl t)) pa_nil (he2 t)) (by decide) (by decide) (he2 t) (hpl2 t), ha _ _ _ A U l r _ fun v T l1 r1 ⟨q, us, e1, e2, e3⟩ => by
    subst e1
    obtain ⟨ks, k1, k2, k3⟩ := refs_of e3
    subst k1
    have hlen : ks.length = ps.length := by
      have := congrArg List.length k2
      simpa using this
    refine ⟨q, ks, rfl, e2 T (Le.refl T), fun p hp => sqT_sub T (k3 p hp), by omega, fun a L ha hL1 hL2 => ?_⟩
    have sq : ∀ p ∈ L, SqT Y.K T.F p.1 (p.2.map V.int) := fun p hp => k3 p (hL1 p hp)
    have la : Le M0 T (T.own a (SetTO Y.P Y.w a L) ha) := Le.own ha
    have pr : ∀ p ∈ ks, ∃ x ∈ ps, p.2 = [x.1, x.2] := fun p hp => by
      have : p.2 ∈ ks.map (·.2) := List.mem_map.mpr ⟨p, hp, rfl⟩
      rw [k2] at this
      obtain ⟨x, hx, e⟩ := List.mem_map.mp this
      exact ⟨x, hx, e.symm⟩
    refine ⟨a, L, 2, 64, rfl, upd_same, fun p hp => sqT_sub (T.own a (SetTO Y.P Y.w a L) ha) (sq p hp), by decide, fun p hp => ?_, fun L' q' hp hnd hl2 hpw hq => ?_⟩
    · obtain ⟨x, hx, e⟩ := pr p (hL1 p hp)
      have := hb x hx
      rw [e]
      refine ⟨rfl, fun y hy => ?_⟩
      simp only [List.mem_cons, List.not_mem_nil, or_false] at hy
      rcases hy with rfl | rfl <;> omega
    · have hmem : ∀ y, y ∈ L'.map (·.2) ↔ y ∈ M.map (fun p => [p.1, p.2]) := fun y => by
        constructor
        · intro hy
          obtain ⟨p, hpp, rfl⟩ := List.mem_map.mp hy
          obtain ⟨x, hx, e⟩ := pr p (hL1 p (hp.mem_iff.mp hpp))
          rw [e]
          exact List.mem_map.mpr ⟨x, (hM x).mpr hx, rfl⟩
        · intro hy
          obtain ⟨x, hx, rfl⟩ := List.mem_map.mp hy
          have : [x.1, x.2] ∈ ks.map (·.2) := by
            rw [k2]
            exact List.mem_map.mpr ⟨x, (hM x).mp hx, rfl⟩
          obtain ⟨p, hpp, e⟩ := List.mem_map.mp this
          have h3 := hL2 p hpp
          rw [e] at h3
          obtain ⟨p', hp', e'⟩ := List.mem_map.mp h3
          exact List.mem_map.mpr ⟨p', hp.mem_iff.mpr hp', e'⟩
      have inj : ∀ x y : Int × Int, [x.1, x.2] = [y.1, y.2] → x = y := fun x y e => by
        simp only [List.cons.injEq, and_true] at e
        exact Prod.ext e.1 e.2
      have hMn : (M.map (fun p : Int × Int => [p.1, p.2])).Nodup := by
        rw [List.nodup_iff_pairwise_ne, List.pairwise_map]
        exact (List.nodup_iff_pairwise_ne.mp hn).imp fun {x y} hxy e => hxy (inj x y e)
      have hperm : (L'.map (·.2)).Perm (M.map fun p => [p.1, p.2]) := (List.perm_ext_iff_of_nodup hnd hMn).mpr hmem
      have heq : L'.map (·.2) = M.map fun p => [p.1, p.2] := by
        refine hperm.eq_of_pairwise (le := fun x y => TS.code 64 x ≤ TS.code 64 y) (fun x y hx hy h1 h2 => ?_) (List.pairwise_map.mpr hpw) (List.pairwise_map.mpr (hs.imp fun {x y} h => by rw [code_pair, code_pair]; exact h))
        rw [hmem] at hx
        obtain ⟨x', hx', rfl⟩ := List.mem_map.mp hx
        obtain ⟨y', hy', rfl⟩ := List.mem_map.mp hy
        have b1 := hb x' ((hM x').mp hx')
        have b2 := hb y' ((hM y').mp hy')
        rw [code_pair, code_pair] at h1 h2
        have : x'.1 = y'.1 ∧ x'.2 = y'.2 := by omega
        rw [this.1, this.2]
      have lq : Le M0 (T.own a (SetTO Y.P Y.w a L) ha) ((T.own a (SetTO Y.P Y.w a L) ha).own q' (.lst (L'.map fun q => V.ref q.1)) hq) := Le.own hq
      have l2 : Le M0 T ((T.own a (SetTO Y.P Y.w a L) ha).own q' (.lst (L'.map fun q => V.ref q.1)) hq) := la.trans lq
      refine z (.ref q') _ (l1.trans l2.of0) (m.le0 r1 l2) ⟨q', _, rfl, (l1.trans la.of0).back hq, ?_, upd_same, ?_⟩
      · exact (T.own a (SetTO Y.P Y.w a L) ha).fnone hq
      · exact dp_pairs (F := T.F) (fun p hpp => sq p (hp.mem_iff.mp hpp)) heq⟩
end
end Xv
set_option Elab.async false
set_option linter.all false
set_option maxRecDepth 100000
set_option maxHeartbeats 4000000
/-! for .. in zip(a, b, c), three tuples -/
namespace ZL
open PySem PySem.Spec PyProof.Rows L2
def ItzT3 (K : PySem.W.Frag) (a b c : Addr) : It :=
  ⟨fun i H => ∃ (xs ys zs : List V) (x y z : V), SqT K H a xs ∧ SqT K H b ys ∧ SqT K H c zs ∧ xs[i]? = some x ∧ ys[i]? = some y ∧ zs[i]? = some z,
    fun i H v H' => ∃ T x y z, v = .ref T ∧ H T = none ∧ H' = upd H T (.tup [x, y, z]) ∧ (∀ xs, SqT K H a xs → xs[i]? = some x) ∧ (∀ ys, SqT K H b ys → ys[i]? = some y) ∧ ∀ zs, SqT K H c zs → zs[i]? = some z,
    fun i H => ∃ xs ys zs : List V, SqT K H a xs ∧ SqT K H b ys ∧ SqT K H c zs ∧ i ≤ xs.length ∧ i ≤ ys.length ∧ i ≤ zs.length ∧ (i = xs.length ∨ i = ys.length ∨ i = zs.length)⟩
theorem mem6 {c z TI TO i1 i2 i3 : Addr} : c ∈ [z, TI, TO, i1, i2, i3] ↔ c = z ∨ c = TI ∨ c = TO ∨ c = i1 ∨ c = i2 ∨ c = i3 := by simp
theorem turn_zipT3 {P : Program} {w : World} {K : PySem.W.Frag} {elts : List Expr} {kk : Nat} {tpos : Pos} {a b c z TI TO i1 i2 i3 : Addr} (D : ZipSep3 z TI TO i1 i2 i3 [i1, a] [i2, b] [i3, c]) :
    Turn P w K (.Tuple elts kk tpos) (ItzT3 K a b c) [z, TI, TO, i1, i2, i3] z (fun i h => IsZip h z TI TO .none ∧ IsTupOf3 h TI (.ref i1) (.ref i2) (.ref i3) ∧ (∃ x y u, IsTupOf3 h TO x y u) ∧ h.IsTupleIter i1 a i ∧ h.IsTupleIter i2 b i ∧ h.IsTupleIter i3 c i) where
  mem := by simp
  obj := fun i h st c hc => by
    obtain ⟨hz, hTI, ⟨x, y, u, hTO⟩, ⟨o1, e1, _, d1⟩, ⟨o2, e2, _, d2⟩, ⟨o3, e3, _, d3⟩⟩ := st
    rcases mem6.mp hc with q | q | q | q | q | q
    · rw [q]; exact ⟨_, hz, fun v q => nomatch q⟩
    · rw [q]; exact ⟨_, hTI, fun v q => nomatch q⟩
    · rw [q]; exact ⟨_, hTO, fun v q => nomatch q⟩
    · rw [q]; exact ⟨o1, e1, fun v q => by rw [d1] at q; cases q⟩
    · rw [q]; exact ⟨o2, e2, fun v q => by rw [d2] at q; cases q⟩
    · rw [q]; exact ⟨o3, e3, fun v q => by rw [d3] at q; cases q⟩
  keep := fun i h h' st k => by
    obtain ⟨hz, hTI, ⟨x, y, u, hTO⟩, h1, h2, h3⟩ := st
    exact ⟨k z (by simp) _ hz, k TI (by simp) _ hTI, ⟨x, y, u, k TO (by simp) _ hTO⟩, h1.at fun o q => k i1 (by simp) o q, h2.at fun o q => k i2 (by simp) o q, h3.at fun o q => k i3 (by simp) o q⟩
  item := by
    intro X hP hw hK hc i pins s σ H E I hf st hg
    subst hP hw hK
    obtain ⟨hz, hTI, ⟨x0, y0, u0, hTO⟩, h1, h2, h3⟩ := st
    obtain ⟨xs, ys, zs, x, y, u, hqx, hqy, hqz, hx, hy, hu⟩ := hg
    obtain ⟨its, rv, p, _⟩ := I.tuple hqx
    obtain ⟨its2, rv2, p2, _⟩ := I.tuple hqy
    obtain ⟨its3, rv3, p3, _⟩ := I.tuple hqz
    obtain ⟨v1, hv1, r1⟩ := rv.get hx
    obtain ⟨v2, hv2, r2⟩ := rv2.get hy
    obtain ⟨v3, hv3, r3⟩ := rv3.get hu
    have hzl : z < s.heap.objs.size := Heap.lt_size hz
    have hd : X.A.handled = none := I.ok.hd hc
    have ne : ∀ {t it : Addr} {its : Array Value} {k : Nat}, IsTup s.heap t its → s.heap.IsTupleIter it t k → t ≠ it := fun {t it its k} pt pi q => by
      obtain ⟨o, e, hc, _⟩ := pt
      obtain ⟨o', e', hc', _⟩ := pi
      rw [q, e'] at e
      cases e
      rw [hc'] at hc
      exact absurd (Value.type.inj hc) (by decide)
    have lt : ∀ {xs : List Value} {v : Value} {k : Nat}, xs[k]? = some v → k < xs.toArray.size := fun h => by
      rw [List.size_toArray]
      exact (List.getElem?_eq_some_iff.mp h).1
    refine wpAny_pyNext_zipD3_item (a1 := x0) (a2 := y0) (a3 := u0) (i := i) D (Draws.tuple (A := X.A.in1) hd i1 a (ne p h1) its.toArray) (Draws.tuple (A := X.A.in1) hd i2 b (ne p2 h2) its2.toArray) (Draws.tuple (A := X.A.in1) hd i3 c (ne p3 h3) its3.toArray) hz hTI hTO ⟨h1, p⟩ ⟨h2, p2⟩ ⟨h3, p3⟩ (lt hv1) (lt hv2) (lt hv3) fun w1 w2 w3 h' tk q1 q2 q3 z' TO' s1 s2 s3 hT hsz hk => ?_
    have e1 : w1 = v1 := by
      have : its[i]? = some w1 := by simpa using q1
      rw [hv1] at this
      exact (Option.some.inj this).symm
    have e2 : w2 = v2 := by
      have : its2[i]? = some w2 := by simpa using q2
      rw [hv2] at this
      exact (Option.some.inj this).symm
    have e3 : w3 = v3 := by
      have : its3[i]? = some w3 := by simpa using q3
      rw [hv3] at this
      exact (Option.some.inj this).symm
    subst e1 e2 e3
    refine ⟨_, rfl, wpAny_letOwnedTupleGo_zip (s := { s with heap := h', toks := tk }) z' fun h'' z'' sb => ?_⟩
    have hT2 : h''.get? s.heap.objs.size = some { cls := .type "tuple", data := .seq #[w1, w2, w3] } := (sb.2 _ (Nat.ne_of_gt hzl)).trans hT
    have new : ObjOk X.prog X.w (upd H s.heap.objs.size (.tup [x, y, u])) h'' s.heap.objs.size (.tup [x, y, u]) :=
      ⟨by show 3 ≤ sizeLine; decide, [w1, w2, w3], .cons r1 (.cons r2 (.cons r3 .nil)), ⟨_, hT2, rfl, _, rfl⟩⟩
    have I1 : Inv X pins σ (upd H s.heap.objs.size (.tup [x, y, u])) { s with heap := h'', toks := tk } :=
      I.turnedNew (t' := tk) (ch := [z, TI, TO, i1, i2, i3]) (fun c o hb q => (sb.2 c (fun q' => hb (by simp [q']))).trans (hk c o (fun q' => hb (by simp [q'])) (fun q' => hb (by simp [q'])) (fun q' => hb (by simp [q'])) (fun q' => hb (by simp [q'])) (fun q' => hb (by simp [q'])) q)) hf (Nat.le_refl _) new
    refine ⟨.ref s.heap.objs.size, _, I1, rfl, ⟨_, x, y, u, rfl, I.hok.fresh (Nat.le_refl _), rfl, fun l hl => by rw [I.tuple_inj hl hqx]; exact hx, fun l hl => by rw [I.tuple_inj hl hqy]; exact hy, fun l hl => by rw [I.tuple_inj hl hqz]; exact hu⟩, ⟨z'', ?_, ⟨w1, w2, w3, ?_⟩, ?_, ?_, ?_⟩, fun c hcm => ?_⟩
    · exact (sb.2 _ D.TIz).trans (hk _ _ D.TIz D.TITO D.TIi1 D.TIi2 D.TIi3 hTI)
    · exact (sb.2 _ D.TOz).trans TO'
    · exact s1.1.at fun o q => (sb.2 _ (Ne.symm D.zi1)).trans q
    · exact s2.1.at fun o q => (sb.2 _ (Ne.symm D.zi2)).trans q
    · exact s3.1.at fun o q => (sb.2 _ (Ne.symm D.zi3)).trans q
    · have hlt : c < s.heap.objs.size := by
        rcases mem6.mp hcm with q | q | q | q | q | q
        · rw [q]; exact hzl
        · rw [q]; exact Heap.lt_size hTI
        · rw [q]; exact Heap.lt_size hTO
        · rw [q]; obtain ⟨_, e1, _⟩ := h1; exact Heap.lt_size e1
        · rw [q]; obtain ⟨_, e2, _⟩ := h2; exact Heap.lt_size e2
        · rw [q]; obtain ⟨_, e3, _⟩ := h3; exact Heap.lt_size e3
      rw [upd_ne (Nat.ne_of_lt hlt)]
      exact (hf c hcm).1
  done := by
    intro X hP hw hK hc i pins s σ H E I hf st hg
    subst hP hw hK
    obtain ⟨hz, hTI, ⟨x0, y0, u0, hTO⟩, h1, h2, h3⟩ := st
    obtain ⟨xs, ys, zs, hqx, hqy, hqz, b1, b2, b3, hend⟩ := hg
    obtain ⟨its, rv, p, _⟩ := I.tuple hqx
    obtain ⟨its2, rv2, p2, _⟩ := I.tuple hqy
    obtain ⟨its3, rv3, p3, _⟩ := I.tuple hqz
    have hd : X.A.handled = none := I.ok.hd hc
    have ne : ∀ {t it : Addr} {its : Array Value} {k : Nat}, IsTup s.heap t its → s.heap.IsTupleIter it t k → t ≠ it := fun {t it its k} pt pi q => by
      obtain ⟨o, e, hc, _⟩ := pt
      obtain ⟨o', e', hc', _⟩ := pi
      rw [q, e'] at e
      cases e
      rw [hc'] at hc
      exact absurd (Value.type.inj hc) (by decide)
    have l1 := rv.length
    have l2 := rv2.length
    have l3 := rv3.length
    refine wpAny_pyNext_zipD3_end (a1 := x0) (a2 := y0) (a3 := u0) (i := i) D (Draws.tuple (A := X.A.in1) hd i1 a (ne p h1) its.toArray) (Draws.tuple (A := X.A.in1) hd i2 b (ne p2 h2) its2.toArray) (Draws.tuple (A := X.A.in1) hd i3 c (ne p3 h3) its3.toArray) hz hTI hTO ⟨h1, p⟩ ⟨h2, p2⟩ ⟨h3, p3⟩ (by rw [List.size_toArray, ← l1]; exact b1) (by rw [List.size_toArray, ← l2]; exact b2) (by rw [List.size_toArray, ← l3]; exact b3) (by rw [List.size_toArray, List.size_toArray, List.size_toArray, ← l1, ← l2, ← l3]; exact hend) fun h' tk hk => ⟨rfl, ?_⟩
    exact I.turnedL (t' := tk) (ch := [z, TI, TO, i1, i2, i3]) (fun c o hb q =>
      hk c o (fun q' => hb (by simp [q'])) (fun q' => hb (by simp [q'])) (fun q' => hb (by simp [q'])) (fun q' => hb (by simp [q'])) (fun q' => hb (by simp [q'])) q) hf
  self := fun A i s Q E st h => wpAny_pyIter_zip st.1 h
theorem apart6 {g a b c : Nat} (ha : a < g) (hb : b < g) (hc : c < g) : ZipSep3 (g + 5) (g + 3) (g + 4) g (g + 1) (g + 2) [g, a] [g + 1, b] [g + 2, c] :=
  ⟨show (g + 3 : Nat) ≠ g + 5 by omega, show (g + 4 : Nat) ≠ g + 5 by omega, show (g + 3 : Nat) ≠ g + 4 by omega, show (g + 3 : Nat) ≠ g by omega, List.mem_cons_self, nm2 (by omega) (by omega), nm2 (by omega) (by omega), show (g + 3 : Nat) ≠ g + 1 by omega, List.mem_cons_self, nm2 (by omega) (by omega), nm2 (by omega) (by omega),
    show (g + 3 : Nat) ≠ g + 2 by omega, List.mem_cons_self, nm2 (by omega) (by omega), nm2 (by omega) (by omega), nm2 (by omega) (by omega), nm2 (by omega) (by omega), nm2 (by omega) (by omega), nm2 (by omega) (by omega), nm2 (by omega) (by omega), nm2 (by omega) (by omega)⟩
theorem ge6 {g c : Nat} (h : c = g + 5 ∨ c = g + 3 ∨ c = g + 4 ∨ c = g ∨ c = g + 1 ∨ c = g + 2) : g ≤ c := by omega
def iZip3 (K : PySem.W.Frag) (ta : TA) : TI := fun σ H R => ta σ H fun vs H1 => ∃ a b c xs ys zs, vs = [.ref a, .ref b, .ref c] ∧ SqT K H1 a xs ∧ SqT K H1 b ys ∧ SqT K H1 c zs ∧ R (ItzT3 K a b c) H1
theorem pi_zip3 {X : Cx} {e e2 e3 : Expr} {ta : TA} {p pos tpos : Pos} {elts : List Expr} {kk : Nat} (hg : Gl X "zip") (hm : X.mg "zip" = none) (ha : PA X [e, e2, e3] ta)
    (hs : starEach [e, e2, e3] X.env = (false, eval e X.env) :: starEach [e2, e3] X.env) (hpl : (backTo pos (starEach [e2, e3] X.env)).any (·.1) = false) :
    PI X (.Tuple elts kk tpos) (.Call (.Name "zip" p) [e, e2, e3] [] pos) (iZip3 X.K ta) := by
  refine ⟨fun pins s σ H R I h => ?_⟩
  refine Call_ (ld_blt I hg hm PyProof.Rows.boot_zip (PyProof.Rows.callWith_type1 (thn (ha.run pos pins s σ H _ I h) fun us s1 ⟨vs, H1, I1, r1, a, b, c, xs, ys, zs, ev, hqx, hqy, hqz, q⟩ => ?_) hs hpl))
  subst ev
  cases r1 with
  | cons ra rr =>
    cases rr with
    | cons rb rr =>
      cases rr with
      | cons rc rr =>
        cases rr
        cases ra
        cases rb
        cases rc
        obtain ⟨its, rv, p1, _⟩ := I1.tuple hqx
        obtain ⟨its2, rv2, p2, _⟩ := I1.tuple hqy
        obtain ⟨its3, rv3, p3, _⟩ := I1.tuple hqz
        obtain ⟨o1, ho1, _⟩ := id p1
        obtain ⟨o2, ho2, _⟩ := id p2
        obtain ⟨o3, ho3, _⟩ := id p3
        refine zip_begins3 (begins_tuple a its.toArray) (begins_tuple b its2.toArray) (begins_tuple c its3.toArray) p1 p2 p3 fun h' hz hTI hTO h1 h2 h3 hsz hk => wpAny_pyIter_zip hz ?_
        have I2 : Inv X pins σ H1 { s1 with heap := h' } := I1.kept (t' := s1.toks) hk
        exact ⟨s1.heap.objs.size + 5, [s1.heap.objs.size + 5, s1.heap.objs.size + 3, s1.heap.objs.size + 4, s1.heap.objs.size, s1.heap.objs.size + 1, s1.heap.objs.size + 2], _, _, H1, rfl, I2, turn_zipT3 (apart6 (Heap.lt_size ho1) (Heap.lt_size ho2) (Heap.lt_size ho3)), ⟨hz, hTI, ⟨_, _, _, hTO⟩, ⟨_, h1, rfl, rfl⟩, ⟨_, h2, rfl, rfl⟩, ⟨_, h3, rfl, rfl⟩⟩, fun d hd => by
          have hle := ge6 (mem6.mp hd)
          exact I1.fpOk hle (I1.hok.fresh hle), q⟩
end ZL
set_option Elab.async false
set_option linter.all false
set_option maxRecDepth 100000
set_option maxHeartbeats 4000000
namespace Xv
open PySem PySem.Spec PyProof.Rows L2 Pv
section
variable {m : Mode} {Y : Fam} {Γ : Ctx} {i j k l : m.ι} {e a b c : Expr} {p pos : Pos} {α β γ : Type}
theorem AllIs.inv3' {K : PySem.W.Frag} {F : Hp} {vs : List V} {x y z : Sv} (h : AllIs K F vs [x, y, z]) : ∃ v w u, vs = [v, w, u] ∧ Is K F v x ∧ Is K F w y ∧ Is K F u z := Pv.AllIs.inv3 h
/-- zip of three tuples -/
theorem i_zip3 {elts : List Expr} {q : Nat} {tp : Pos} {xs : List α} {ys : List β} {zs : List γ} {f : α → PD} {g : β → PD} {h : γ → PD} (B : BI Y "zip" (.type "zip")) (ha : X m Y Γ i a (.d (.tuple (xs.map f))) j) (hb : X m Y Γ j b (.d (.tuple (ys.map g))) k) (hc : X m Y Γ k c (.d (.tuple (zs.map h))) l)
    (hs : Se Y a [b, c] := by intro _; rfl) (hs2 : Se Y b [c] := by intro _; rfl) (hs3 : Se Y c [] := by intro _; rfl) (hpl : Bt Y pos [b, c] := by intro _; rfl) : XI m Y Γ i (.Tuple elts q tp) (.Call (.Name "zip" p) [a, b, c] [] pos) (xs.zip (ys.zip zs)) (fun r => .tuple [f r.1, g r.2.1, h r.2.2]) l := fun W0 σ W A U le r Z z =>
  ⟨ZL.iZip3 Y.K (wA Y [a, b, c]), fun t => by
    have h := ZL.pi_zip3 (X := Y.X t) (tpos := tp) (elts := elts) (kk := q) (p := p) (pos := pos) (B.g.gl t) (by rw [Y.hmg]; exact B.m) (wA_ok (es := [a, b, c]) t) (hs t) (hpl t)
    rw [Y.hK t] at h
    exact h, ea_cons (ha _ _ _ A) (ea_cons (hb _ _ _ A) (ea_cons (hc _ _ _ A) ea_nil hs3) hs2) hs U le r _ fun vs T l1 r1 p1 => by
    obtain ⟨v, v', v'', rfl, hv, hv', hv''⟩ := p1.inv3
    obtain ⟨a1, vs1, rfl, e2, e3⟩ := Is.tup hv
    obtain ⟨b1, vs2, rfl, f2, f3⟩ := Is.tup hv'
    obtain ⟨c1, vs3, rfl, g2, g3⟩ := Is.tup hv''
    have n1 := e3.len
    have n2 := f3.len
    have n3 := g3.len
    rw [List.length_map] at n1 n2 n3
    have hl : (xs.zip (ys.zip zs)).length = min xs.length (min ys.length zs.length) := by rw [List.length_zip, List.length_zip]
    refine ⟨a1, b1, c1, vs1, vs2, vs3, rfl, sqT_sub T e2, sqT_sub T f2, sqT_sub T g2, z _ T l1 r1 ⟨fun T' hf => ⟨vs1, vs2, vs3, sqT_sub T' (Evl.ex_t hf e2), sqT_sub T' (Evl.ex_t hf f2), sqT_sub T' (Evl.ex_t hf g2), by omega, by omega, by omega, by omega⟩, fun n hn T' hf => ?_⟩⟩
    have q1 : SqT Y.K T'.H a1 vs1 := sqT_sub T' (Evl.ex_t hf e2)
    have q2 : SqT Y.K T'.H b1 vs2 := sqT_sub T' (Evl.ex_t hf f2)
    have q3 : SqT Y.K T'.H c1 vs3 := sqT_sub T' (Evl.ex_t hf g2)
    have h1 : n < vs1.length := by omega
    have h2 : n < vs2.length := by omega
    have h3 : n < vs3.length := by omega
    refine ⟨⟨vs1, vs2, vs3, vs1[n], vs2[n], vs3[n], q1, q2, q3, by simp [h1], by simp [h2], by simp [h3]⟩, fun x H' ⟨t, x1, x2, x3, ex, ht, hH, g1, g2', g3'⟩ => ?_⟩
    subst ex hH
    obtain ⟨d1, w1, w2⟩ := e3.get (g1 vs1 q1)
    obtain ⟨d2, w3, w4⟩ := f3.get (g2' vs2 q2)
    obtain ⟨d3, w5, w6⟩ := g3.get (g3' vs3 q3)
    have up := upd_none (o := .tup [x1, x2, x3]) (T'.fnone ht)
    refine ⟨T'.frz t _ ht, rfl, Le.frz ht, fun r' hr => ?_⟩
    obtain ⟨ra, rb, rc⟩ := r'
    obtain ⟨k1, k2⟩ := List.getElem?_zip_eq_some.mp hr
    obtain ⟨k3, k4⟩ := List.getElem?_zip_eq_some.mp k2
    rw [List.getElem?_map, k1] at w1
    rw [List.getElem?_map, k3] at w3
    rw [List.getElem?_map, k4] at w5
    have w1' : f ra = d1 := Option.some.inj w1
    have w3' : g rb = d2 := Option.some.inj w3
    have w5' : h rc = d3 := Option.some.inj w5
    subst w1' w3' w5'
    exact Dp.tup (SqT.of upd_same) (.cons ((w2.mono hf).mono up) (.cons ((w4.mono hf).mono up) (.cons ((w6.mono hf).mono up) .nil)))⟩
end
end Xv
set_option Elab.async false
set_option linter.all false
set_option maxRecDepth 100000
set_option maxHeartbeats 4000000
namespace Xv
open PySem PySem.Spec PyProof.Rows L2 Pv
/-- what a built-in name stands for -/
class Boot (s : Str) (f : outParam Value) : Prop where
  eq : bootBuiltins s = some f
instance : Boot "abs" (.builtin "abs") := ⟨by rfl⟩
instance : Boot "all" (.builtin "all") := ⟨by rfl⟩
instance : Boot "any" (.builtin "any") := ⟨by rfl⟩
instance : Boot "isinstance" (.builtin "isinstance") := ⟨by rfl⟩
instance : Boot "len" (.builtin "len") := ⟨by rfl⟩
instance : Boot "max" (.builtin "max") := ⟨by rfl⟩
instance : Boot "min" (.builtin "min") := ⟨by rfl⟩
instance : Boot "repr" (.builtin "repr") := ⟨by rfl⟩
instance : Boot "sorted" (.builtin "sorted") := ⟨by rfl⟩
instance : Boot "sum" (.builtin "sum") := ⟨by rfl⟩
instance : Boot "bool" (.type "bool") := ⟨by rfl⟩
instance : Boot "dict" (.type "dict") := ⟨by rfl⟩
instance : Boot "enumerate" (.type "enumerate") := ⟨by rfl⟩
instance : Boot "int" (.type "int") := ⟨by rfl⟩
instance : Boot "list" (.type "list") := ⟨by rfl⟩
instance : Boot "range" (.type "range") := ⟨by rfl⟩
instance : Boot "reversed" (.type "reversed") := ⟨by rfl⟩
instance : Boot "set" (.type "set") := ⟨by rfl⟩
instance : Boot "str" (.type "str") := ⟨by rfl⟩
instance : Boot "tuple" (.type "tuple") := ⟨by rfl⟩
instance : Boot "zip" (.type "zip") := ⟨by rfl⟩
section
variable {m : Mode} {Y : Fam} {Γ : Ctx} {i j k : m.ι} {e : Expr} {p pos : Pos} {α : Type} {ds : List PD}
theorem x_allM {xs : List α} {q : α → Bool} (B : BI Y "all" (.builtin "all")) (ha : XL m Y Γ i e (xs.map fun a => .bool (q a)) j) (he : Se Y e [] := by intro _; rfl) : X m Y Γ i (.Call (.Name "all" p) [e] [] pos) (.d (.bool (xs.all q))) j := by
  have h := x_all (p := p) (pos := pos) (bs := xs.map q) B (by rw [List.map_map]; exact ha.cold) he
  rw [List.all_map] at h
  exact h
theorem x_anyM {xs : List α} {q : α → Bool} (B : BI Y "any" (.builtin "any")) (ha : XL m Y Γ i e (xs.map fun a => .bool (q a)) j) (he : Se Y e [] := by intro _; rfl) : X m Y Γ i (.Call (.Name "any" p) [e] [] pos) (.d (.bool (xs.any q))) j := by
  have h := x_any (p := p) (pos := pos) (bs := xs.map q) B (by rw [List.map_map]; exact ha.cold) he
  rw [List.any_map] at h
  exact h
def isTupD : PD → Bool
  | .tuple _ => true
  | _ => false
def isIntD : PD → Bool
  | .int _ => true
  | .bool _ => true
  | _ => false
def isBoolD : PD → Bool
  | .bool _ => true
  | _ => false
theorem kit_tuple (d : PD) : kitB (tyD d) "tuple" = some (isTupD d) := by cases d <;> rfl
theorem kit_int (d : PD) : kitB (tyD d) "int" = some (isIntD d) := by cases d <;> rfl
theorem kit_bool (d : PD) : kitB (tyD d) "bool" = some (isBoolD d) := by cases d <;> rfl
def isNumS : PD → Bool
  | .int _ => true
  | _ => false
def withinS : PD → Int → Int → Bool
  | .int v, lo, hi => decide (lo ≤ v) && decide (v ≤ hi)
  | _, _, _ => false
def areNumS (d : PD) (many lo hi : Int) : Bool := match d with
  | .tuple ds => decide ((ds.length : Int) = many) && ds.all fun x => withinS x lo hi
  | _ => false
theorem not_nil_l (ds : List PD) : (!PyData.eqv (.list ds) (.list [])) = !ds.isEmpty := by rw [eqv_nilL]
end
end Xv
set_option Elab.async false
set_option linter.all false
set_option maxRecDepth 100000
set_option maxHeartbeats 4000000
namespace K39
open PySem PySem.Spec PyProof.Rows L2 Pv Xv
abbrev BN : List Str := ["ValueError", "abs", "all", "any", "bool", "enumerate", "int", "isinstance", "len", "list", "max", "min", "range", "repr", "reversed", "set", "sorted", "super", "tuple", "zip"]
structure Md (K : PySem.W.Frag) (mg : Str → Option Value) : Prop where
  fr : ∀ s ∈ BN, mg s = none
  d_is_number : Fd K mg "is_number" s_is_number
  d_is_within : Fd K mg "is_within" s_is_within
  d_are_numbers : Fd K mg "are_numbers" s_are_numbers
  d_is_way : Fd K mg "is_way" s_is_way
  d_line_lot_error : Fd K mg "line_lot_error" s_line_lot_error
  d_lots_error : Fd K mg "lots_error" s_lots_error
  d_often_gone : Fd K mg "often_gone" s_often_gone
  d_is_way_sum : Fd K mg "is_way_sum" s_is_way_sum
  d_is_in_lot : Fd K mg "is_in_lot" s_is_in_lot
  d_is_in_lots : Fd K mg "is_in_lots" s_is_in_lots
  d_grid_points : Fd K mg "grid_points" s_grid_points
  d_lot_states : Fd K mg "lot_states" s_lot_states
  d_is_below : Fd K mg "is_below" s_is_below
  d_least_often : Fd K mg "least_often" s_least_often
  d_gone_on : Fd K mg "gone_on" s_gone_on
  d_let_bases : Fd K mg "let_bases" s_let_bases
  d_first_apart_state : Fd K mg "first_apart_state" s_first_apart_state
  d__law_own_bag : Fd K mg "_law_own_bag" s__law_own_bag
  d__law_draw : Fd K mg "_law_draw" s__law_draw
  d__law_told : Fd K mg "_law_told" s__law_told
  d__law_same : Fd K mg "_law_same" s__law_same
  d__law_is : Fd K mg "_law_is" s__law_is
  d__law_way : Fd K mg "_law_way" s__law_way
  d__law_lot : Fd K mg "_law_lot" s__law_lot
  d__law_times : Fd K mg "_law_times" s__law_times
  d__law_is_sum : Fd K mg "_law_is_sum" s__law_is_sum
  d__law_is_in : Fd K mg "_law_is_in" s__law_is_in
  d__law_total : Fd K mg "_law_total" s__law_total
  d__law_are_sums : Fd K mg "_law_are_sums" s__law_are_sums
  d__law_are_bases : Fd K mg "_law_are_bases" s__law_are_bases
  d__law_are_states : Fd K mg "_law_are_states" s__law_are_states
  d__law_are_halves : Fd K mg "_law_are_halves" s__law_are_halves
  d__law_are_errors : Fd K mg "_law_are_errors" s__law_are_errors
  i_MAX_WEIGHT : ∃ t, mg "MAX_WEIGHT" = some (.int 9 t)
  i_MAX_LINES : ∃ t, mg "MAX_LINES" = some (.int 20 t)
  i_MAX_LINE : ∃ t, mg "MAX_LINE" = some (.int 60 t)
  i_MAX_BASE : ∃ t, mg "MAX_BASE" = some (.int 1000 t)
theorem bi {Y : Fam} {s : Str} {f : Value} [b : Boot s f] (hm : Md Y.K Y.mg) (hg : Gb Y s := by rfl) (hs : s ∈ BN := by decide) : BI Y s f := ⟨hg, hm.fr s hs, b.eq⟩
abbrev N_is_number : List Str := ["value"]
theorem sc_is_number : FnScope N_is_number ["value"] (defScope s_is_number) := ⟨rfl, rfl, rfl, by decide, rfl, by decide, by decide⟩
abbrev N_is_within : List Str := ["value", "low", "high"]
theorem sc_is_within : FnScope N_is_within ["value", "low", "high"] (defScope s_is_within) := ⟨rfl, rfl, rfl, by decide, rfl, by decide, by decide⟩
abbrev N_are_numbers : List Str := ["value", "many", "low", "high", "item"]
theorem sc_are_numbers : FnScope N_are_numbers ["value", "many", "low", "high"] (defScope s_are_numbers) := ⟨rfl, rfl, rfl, by decide, rfl, by decide, by decide⟩
abbrev N_is_way : List Str := ["value"]
theorem sc_is_way : FnScope N_is_way ["value"] (defScope s_is_way) := ⟨rfl, rfl, rfl, by decide, rfl, by decide, by decide⟩
abbrev N_line_lot_error : List Str := ["value", "base", "ways", "odd", "place", "way"]
theorem sc_line_lot_error : FnScope N_line_lot_error ["value"] (defScope s_line_lot_error) := ⟨rfl, rfl, rfl, by decide, rfl, by decide, by decide⟩
abbrev N_lots_error : List Str := ["value", "odd", "place", "lot"]
theorem sc_lots_error : FnScope N_lots_error ["value"] (defScope s_lots_error) := ⟨rfl, rfl, rfl, by decide, rfl, by decide, by decide⟩
abbrev N_often_gone : List Str := ["way", "pair", "a", "b", "x", "y", "often"]
theorem sc_often_gone : FnScope N_often_gone ["way", "pair"] (defScope s_often_gone) := ⟨rfl, rfl, rfl, by decide, rfl, by decide, by decide⟩
abbrev N_is_way_sum : List Str := ["ways", "pair", "a", "b", "c", "e", "cross", "first", "second", "often"]
theorem sc_is_way_sum : FnScope N_is_way_sum ["ways", "pair"] (defScope s_is_way_sum) := ⟨rfl, rfl, rfl, by decide, rfl, by decide, by decide⟩
abbrev N_is_in_lot : List Str := ["lot", "state", "base", "ways"]
theorem sc_is_in_lot : FnScope N_is_in_lot ["lot", "state"] (defScope s_is_in_lot) := ⟨rfl, rfl, rfl, by decide, rfl, by decide, by decide⟩
abbrev N_is_in_lots : List Str := ["lots", "state", "lot"]
theorem sc_is_in_lots : FnScope N_is_in_lots ["lots", "state"] (defScope s_is_in_lots) := ⟨rfl, rfl, rfl, by decide, rfl, by decide, by decide⟩
abbrev N_grid_points : List Str := ["top", "found", "x", "y"]
theorem sc_grid_points : FnScope N_grid_points ["top"] (defScope s_grid_points) := ⟨rfl, rfl, rfl, by decide, rfl, by decide, by decide⟩
abbrev N_lot_states : List Str := ["lot", "top", "state"]
theorem sc_lot_states : FnScope N_lot_states ["lot", "top"] (defScope s_lot_states) := ⟨rfl, rfl, rfl, by decide, rfl, by decide, by decide⟩
abbrev N_is_below : List Str := ["one", "other", "own", "further"]
theorem sc_is_below : FnScope N_is_below ["one", "other"] (defScope s_is_below) := ⟨rfl, rfl, rfl, by decide, rfl, by decide, by decide⟩
abbrev N_least_often : List Str := ["state", "way", "takes", "found", "own", "more", "taken"]
theorem sc_least_often : FnScope N_least_often ["state", "way", "takes"] (defScope s_least_often) := ⟨rfl, rfl, rfl, by decide, rfl, by decide, by decide⟩
abbrev N_gone_on : List Str := ["state", "way", "often", "own", "more"]
theorem sc_gone_on : FnScope N_gone_on ["state", "way", "often"] (defScope s_gone_on) := ⟨rfl, rfl, rfl, by decide, rfl, by decide, by decide⟩
abbrev N_let_bases : List Str := ["lot", "takes", "base", "ways", "often", "some", "first", "second", "found", "own", "other"]
theorem sc_let_bases : FnScope N_let_bases ["lot", "takes"] (defScope s_let_bases) := ⟨rfl, rfl, rfl, by decide, rfl, by decide, by decide⟩
abbrev N_first_apart_state : List Str := ["one", "other", "top", "state"]
theorem sc_first_apart_state : FnScope N_first_apart_state ["one", "other", "top"] (defScope s_first_apart_state) := ⟨rfl, rfl, rfl, by decide, rfl, by decide, by decide⟩
abbrev N__law_own_bag : List Str := ["script", "cells", "cell", "mixed"]
theorem sc__law_own_bag : FnScope N__law_own_bag ["script"] (defScope s__law_own_bag) := ⟨rfl, rfl, rfl, by decide, rfl, by decide, by decide⟩
abbrev N__law_draw : List Str := ["bag", "below", "turn", "cell", "found"]
theorem sc__law_draw : FnScope N__law_draw ["bag", "below"] (defScope s__law_draw) := ⟨rfl, rfl, rfl, by decide, rfl, by decide, by decide⟩
abbrev N__law_told : List Str := ["call", "error", "found"]
theorem sc__law_told : FnScope N__law_told ["call"] (defScope s__law_told) := ⟨rfl, rfl, rfl, by decide, rfl, by decide, by decide⟩
abbrev N__law_same : List Str := ["one", "other"]
theorem sc__law_same : FnScope N__law_same ["one", "other"] (defScope s__law_same) := ⟨rfl, rfl, rfl, by decide, rfl, by decide, by decide⟩
abbrev N__law_is : List Str := ["due", "call", "named"]
theorem sc__law_is : FnScope N__law_is ["due", "call", "named"] (defScope s__law_is) := ⟨rfl, rfl, rfl, by decide, rfl, by decide, by decide⟩
abbrev N__law_way : List Str := ["bag", "a", "b"]
theorem sc__law_way : FnScope N__law_way ["bag"] (defScope s__law_way) := ⟨rfl, rfl, rfl, by decide, rfl, by decide, by decide⟩
abbrev N__law_lot : List Str := ["bag", "base", "way", "one", "other"]
theorem sc__law_lot : FnScope N__law_lot ["bag"] (defScope s__law_lot) := ⟨rfl, rfl, rfl, by decide, rfl, by decide, by decide⟩
abbrev N__law_times : List Str := ["way", "pair", "rows", "a", "b"]
theorem sc__law_times : FnScope N__law_times ["way", "pair"] (defScope s__law_times) := ⟨rfl, rfl, rfl, by decide, rfl, by decide, by decide⟩
abbrev N__law_is_sum : List Str := ["ways", "pair", "one", "often", "left", "other", "more"]
theorem sc__law_is_sum : FnScope N__law_is_sum ["ways", "pair"] (defScope s__law_is_sum) := ⟨rfl, rfl, rfl, by decide, rfl, by decide, by decide⟩
abbrev N__law_is_in : List Str := ["lot", "state", "base", "ways"]
theorem sc__law_is_in : FnScope N__law_is_in ["lot", "state"] (defScope s__law_is_in) := ⟨rfl, rfl, rfl, by decide, rfl, by decide, by decide⟩
abbrev N__law_total : List Str := ["often", "ways", "found", "k", "way"]
theorem sc__law_total : FnScope N__law_total ["often", "ways"] (defScope s__law_total) := ⟨rfl, rfl, rfl, by decide, rfl, by decide, by decide⟩
abbrev N__law_are_sums : List Str := ["bag", "lot", "base", "ways", "often", "way", "pair", "pairs", "own", "due", "state", "great", "far", "a", "b", "c", "e", "d", "near", "p", "q"]
theorem sc__law_are_sums : FnScope N__law_are_sums ["bag", "lot"] (defScope s__law_are_sums) := ⟨rfl, rfl, rfl, by decide, rfl, by decide, by decide⟩
abbrev N__law_are_bases : List Str := ["bag", "lot", "x", "y", "ways", "takes", "found", "rows", "way", "longer", "row", "k", "more", "a", "b", "far", "due"]
theorem sc__law_are_bases : FnScope N__law_are_bases ["bag", "lot"] (defScope s__law_are_bases) := ⟨rfl, rfl, rfl, by decide, rfl, by decide, by decide⟩
abbrev N__law_are_states : List Str := ["bag", "lots", "others", "top", "grid", "x", "y", "lot", "due", "state", "marks", "own", "at", "apart", "i"]
theorem sc__law_are_states : FnScope N__law_are_states ["bag", "lots", "others"] (defScope s__law_are_states) := ⟨rfl, rfl, rfl, by decide, rfl, by decide, by decide⟩
abbrev N__law_are_halves : List Str := ["bag", "lot", "base", "ways", "a", "b", "x", "y", "halves"]
theorem sc__law_are_halves : FnScope N__law_are_halves ["bag", "lot"] (defScope s__law_are_halves) := ⟨rfl, rfl, rfl, by decide, rfl, by decide, by decide⟩
abbrev N__law_are_errors : List Str := ["lot", "lots", "base", "ways", "values", "value", "due"]
theorem sc__law_are_errors : FnScope N__law_are_errors ["lot", "lots"] (defScope s__law_are_errors) := ⟨rfl, rfl, rfl, by decide, rfl, by decide, by decide⟩
abbrev N_law : List Str := ["script", "bag", "turn", "lots", "i", "others", "kept", "lot"]
theorem sc_law : FnScope N_law ["script"] (defScope s_law) := ⟨rfl, rfl, rfl, by decide, rfl, by decide, by decide⟩
theorem kw_is_way_sum : KwOk "is_way_sum" s_is_way_sum ["ways", "pair"] ["pair", "ways"] [1, 0] := fun _ _ _ _ _ _ us hl => match us, hl with | [_, _], _ => rfl
theorem kw_let_bases : KwOk "let_bases" s_let_bases ["lot", "takes"] ["takes", "lot"] [1, 0] := fun _ _ _ _ _ _ us hl => match us, hl with | [_, _], _ => rfl
theorem kw_first_apart_state : KwOk "first_apart_state" s_first_apart_state ["one", "other", "top"] ["top", "other", "one"] [2, 1, 0] := fun _ _ _ _ _ _ us hl => match us, hl with | [_, _, _], _ => rfl
theorem kw_is_in_lots : KwOk "is_in_lots" s_is_in_lots ["lots", "state"] ["state", "lots"] [1, 0] := fun _ _ _ _ _ _ us hl => match us, hl with | [_, _], _ => rfl
theorem kw_lot_states : KwOk "lot_states" s_lot_states ["lot", "top"] ["top", "lot"] [1, 0] := fun _ _ _ _ _ _ us hl => match us, hl with | [_, _], _ => rfl
theorem kw_line_lot_error : KwOk "line_lot_error" s_line_lot_error ["value"] ["value"] [0] := fun _ _ _ _ _ _ us hl => match us, hl with | [_], _ => rfl
theorem kw_lots_error : KwOk "lots_error" s_lots_error ["value"] ["value"] [0] := fun _ _ _ _ _ _ us hl => match us, hl with | [_], _ => rfl
theorem kw_is_in_lot : KwOk "is_in_lot" s_is_in_lot ["lot", "state"] ["state", "lot"] [1, 0] := fun _ _ _ _ _ _ us hl => match us, hl with | [_, _], _ => rfl
end K39
set_option Elab.async false
set_option linter.all false
set_option maxRecDepth 100000
set_option maxHeartbeats 4000000
namespace K39
open PySem PySem.Spec PyProof.Rows L2 Pv Xv
section
variable {P : Program} {w : World} {K : PySem.W.Frag} {mg : Str → Option Value} {base : Heap}
def isNumR : List Sv → Sv → Prop := fun xs y => ∃ d, xs = [.d d] ∧ y = .d (.bool (isNumS d))
theorem fn_is_number (hm : Md K mg) : Cl P w K mg base 1 "is_number" s_is_number ["value"] (pureSp K isNumR) := by
  refine .of hm.d_is_number (fun _ _ _ _ _ _ us hl => match us, hl with | [_], _ => rfl) fun f fd F => fnX F sc_is_number (by rintro _ _ ⟨_, rfl, _⟩; rfl) ?_
  rintro cdv A outer s H hr xs y ⟨d, rfl, rfl⟩
  refine q_ret (X.is (x_and (x_isinst (bi hm) (bi hm) x_v (kit_int d)) (fun _ => x_one (x_not (x_isinst (bi hm) (bi hm) x_v (kit_bool d))))) ?_) (.inl ⟨_, rfl⟩)
  cases d <;> rfl
def withinR : List Sv → Sv → Prop := fun xs y => ∃ d lo hi, xs = [.d d, .d (.int lo), .d (.int hi)] ∧ y = .d (.bool (withinS d lo hi))
theorem fn_is_within (hm : Md K mg) : Cl P w K mg base 2 "is_within" s_is_within ["value", "low", "high"] (pureSp K withinR) := by
  have C1 := fn_is_number (P := P) (w := w) (base := base) hm
  refine .of hm.d_is_within (fun _ _ _ _ _ _ us hl => match us, hl with | [_, _, _], _ => rfl) fun f fd F => fnX F sc_is_within (by rintro _ _ ⟨_, _, _, rfl, _⟩; rfl) ?_
  rintro cdv A outer s H hr xs y ⟨d, lo, hi, rfl, rfl⟩
  refine q_ret (X.is (x_and (v := withinS d lo hi) (x_call C1 (a_cons x_v a_nil) ⟨d, rfl, rfl⟩) (fun hd => x_one ?_)) ?_) (.inl ⟨_, rfl⟩)
  · cases d with
    | int v => exact XC.val (c'_leqleq x_v x_v x_v)
    | _ => cases hd
  · cases d <;> rfl
def areR : List Sv → Sv → Prop := fun xs y => ∃ d many lo hi, xs = [.d d, .d (.int many), .d (.int lo), .d (.int hi)] ∧ (∀ ds, d = .tuple ds → ds.length ≤ 100000) ∧ y = .d (.bool (areNumS d many lo hi))
theorem fn_are_numbers (hm : Md K mg) : Cl P w K mg base 3 "are_numbers" s_are_numbers ["value", "many", "low", "high"] (pureSp K areR) := by
  have C1 := fn_is_within (P := P) (w := w) (base := base) hm
  refine .of hm.d_are_numbers (fun _ _ _ _ _ _ us hl => match us, hl with | [_, _, _, _], _ => rfl) fun f fd F => fnX F sc_are_numbers (by rintro _ _ ⟨_, _, _, _, rfl, _⟩; rfl) ?_
  rintro cdv A outer s H hr xs y ⟨d, many, lo, hi, rfl, hl, rfl⟩
  by_cases hd : ∃ ds, d = .tuple ds
  · obtain ⟨ds, rfl⟩ := hd
    have hl' := hl ds rfl
    have e0 : ds.map (fun x => x) = ds := List.map_id' ds
    refine q_ret (X.is (x_and (u := true) (x_isinst (bi hm) (bi hm) x_v rfl) (fun _ => x_and (XC.val (c'_eqi (x_lenT (bi hm) x_v) x_v)) (fun _ => x_one (x_allM (bi hm) (xl_lcM [("item", 4)] (fun x => .bool (withinS x lo hi)) (i_tup (xs := ds) (enc := fun x => x) (by rw [e0]; exact x_v)) hl' (fun x hx => turn_m (xg_n 4) (x_call C1 (a_cons x_v (a_cons x_v (a_cons x_v a_nil))) ⟨x, lo, hi, rfl, rfl⟩))))))) ?_) (.inl ⟨_, rfl⟩)
    rfl
  · have e1 : isTupD d = false := by
      cases d <;> first | rfl | exact absurd ⟨_, rfl⟩ hd
    have e2 : areNumS d many lo hi = false := by
      cases d <;> first | rfl | exact absurd ⟨_, rfl⟩ hd
    exact q_ret (X.is (x_and (u := isTupD d) (v := true) (x_isinst (bi hm) (bi hm) x_v (kit_tuple d)) (fun z => by rw [e1] at z; cases z)) (by rw [e1, e2]; rfl)) (.inl ⟨_, rfl⟩)
end
end K39
set_option Elab.async false
set_option linter.all false
set_option maxRecDepth 100000
set_option maxHeartbeats 4000000
/-! plain specs: line lots -/
theorem Xv.XW.is {m : Pv.Mode} {Y : Pv.Fam} {Γ : Xv.Ctx} {i j : m.ι} {e : PySem.Expr} {u v : Bool} (h : Xv.XW m Y Γ i e u j) (q : u = v) : Xv.XW m Y Γ i e v j := q ▸ h
namespace Ll
open PySem PySem.Spec PyProof.Rows L2 Pv Xv
abbrev Pr := Int × Int
abbrev Lot := Pr × List Pr
def waysD (ws : List Pr) : PD := .tuple (ws.map prI)
def lotD (l : Lot) : PD := .tuple [prI l.1, waysD l.2]
def lotsD (ls : List Lot) : PD := .tuple (ls.map lotD)
def isWayS (d : PD) : Bool := areNumS d 2 0 60 && !PyData.eqv d (.tuple [.int 0, .int 0])
def oddW (ws : List PD) : List Nat := (ws.zipIdx.filter fun r => !isWayS r.1).map (·.2)
def tailErr (ws : List PD) : List Nat → PD
  | k :: _ => .tuple [.str "way", .int (k : Int)]
  | [] => match ws with
    | [u, v] => if PySem.W.dataLt u v then .none else .str "order"
    | _ => .none
def lineErrS : PD → PD
  | .tuple [b, .tuple ws] => if areNumS b 2 0 1000 = false then .str "base" else if 2 < ws.length then .str "many" else tailErr ws (oddW ws)
  | _ => .str "form"
def oddL (ls : List PD) : List Nat := (ls.zipIdx.filter fun r => !isNoneD (lineErrS r.1)).map (·.2)
def lotsErrS : PD → PD
  | .tuple ls => if 20 < ls.length then .str "many" else match oddL ls with
    | k :: _ => .tuple [.str "lot", .int (k : Int)]
    | [] => .none
  | _ => .str "form"
def sz1 (d : PD) : Prop := ∀ ds, d = .tuple ds → ds.length ≤ 1000
def Fine (d : PD) : Prop := ∀ b ws, d = .tuple [b, .tuple ws] → sz1 b ∧ ws.length ≤ 1000 ∧ ∀ w ∈ ws, sz1 w
theorem areNum2 {d : PD} {lo hi : Int} (h : areNumS d 2 lo hi = true) : ∃ a b : Int, d = prI (a, b) ∧ lo ≤ a ∧ a ≤ hi ∧ lo ≤ b ∧ b ≤ hi := by
  cases d with
  | tuple ds =>
    simp only [areNumS, Bool.and_eq_true, decide_eq_true_eq] at h
    obtain ⟨h1, h2⟩ := h
    match ds, h1, h2 with
    | [x, y], _, h2 =>
      simp only [List.all_cons, List.all_nil, Bool.and_true, Bool.and_eq_true] at h2
      obtain ⟨h3, h4⟩ := h2
      cases x with
      | int a =>
        cases y with
        | int b =>
          simp only [withinS, Bool.and_eq_true, decide_eq_true_eq] at h3 h4
          exact ⟨a, b, rfl, h3.1, h3.2, h4.1, h4.2⟩
        | _ => simp [withinS] at h4
      | _ => simp [withinS] at h3
    | [], h1, _ => simp at h1
    | [_], h1, _ => simp at h1
    | _ :: _ :: _ :: _, h1, _ =>
      simp only [List.length_cons] at h1
      omega
  | _ => simp [areNumS] at h
theorem isWay2 {d : PD} (h : isWayS d = true) : ∃ a b : Int, d = prI (a, b) := by
  unfold isWayS at h
  simp only [Bool.and_eq_true] at h
  obtain ⟨a, b, e, _⟩ := areNum2 h.1
  exact ⟨a, b, e⟩
theorem eqv_pair (a b : Pr) : PyData.eqv (prI a) (prI b) = decide (a = b) := by
  obtain ⟨a1, a2⟩ := a
  obtain ⟨b1, b2⟩ := b
  show PyData.eqv (.tuple [.int a1, .int a2]) (.tuple [.int b1, .int b2]) = _
  by_cases h1 : a1 = b1 <;> by_cases h2 : a2 = b2 <;> simp [PyData.eqv, PyData.eqvAll, h1, h2]
def optI : Option Int → PD
  | none => .none
  | some n => .int n
theorem optI_none (o : Option Int) : isNoneD (optI o) = !o.isSome := by cases o <;> rfl
/-- ways: not below 0, not both 0, no great ones -/
def WOk (w : Pr) : Prop := 0 ≤ w.1 ∧ w.1 ≤ 1000 ∧ 0 ≤ w.2 ∧ w.2 ≤ 1000 ∧ 0 < w.1 + w.2
def PB (n : Nat) (p : Pr) : Prop := p.1.natAbs < n ∧ p.2.natAbs < n
def oftenN (w p : Pr) : Int := if 0 < w.1 then p.1 / w.1 else p.2 / w.2
def oftenS (w p : Pr) : Option Int := if decide (0 ≤ oftenN w p) && decide ((oftenN w p * w.1, oftenN w p * w.2) = p) then some (oftenN w p) else none
def crossS (w v : Pr) : Int := w.1 * v.2 - w.2 * v.1
def isSumS (ws : List Pr) (p : Pr) : Bool := match ws with
  | [] => decide (p = (0, 0))
  | [w] => (oftenS w p).isSome
  | w :: v :: _ => if crossS w v = 0 then (rgI 0 (v.1 + v.2).toNat).any fun o => (oftenS v (p.1 - o * w.1, p.2 - o * w.2)).isSome
    else decide ((p.1 * v.2 - p.2 * v.1).fmod (crossS w v) = 0) && (decide ((w.1 * p.2 - w.2 * p.1).fmod (crossS w v) = 0) && (decide (0 ≤ (p.1 * v.2 - p.2 * v.1).fdiv (crossS w v)) && decide (0 ≤ (w.1 * p.2 - w.2 * p.1).fdiv (crossS w v))))
structure LOk (l : Lot) : Prop where
  b : l.1.1.natAbs < 10 ^ 6 ∧ l.1.2.natAbs < 10 ^ 6
  n : l.2.length ≤ 2
  w : ∀ w ∈ l.2, WOk w
def inLotS (l : Lot) (s : Pr) : Bool := isSumS l.2 (s.1 - l.1.1, s.2 - l.1.2)
def inLotsS (ls : List Lot) (s : Pr) : Bool := ls.any fun l => inLotS l s
def gridS (top : Int) : List Pr := (rgI 0 (top + 1).toNat).flatMap fun x => (rgI 0 (top + 1).toNat).map fun y => (x, y)
def lotStatesS (l : Lot) (top : Int) : List Pr := (gridS top).filter fun s => inLotS l s
def apartS (one other : List Lot) (top : Int) : Option Pr := (gridS top).find? fun s => inLotsS one s != inLotsS other s
def optP : Option Pr → PD
  | none => .none
  | some p => prI p
def belowS (one other : List Int) : Bool := (one.zip other).all fun r => decide (r.1 ≤ r.2)
def mxS (a b : Int) : Int := if b > a then b else a
def leastGo : List (Int × Int × Int) → Int → Option Int
  | [], f => some f
  | (o, m, t) :: r, f => if o < t then (if m = 0 then none else leastGo r (mxS f ((t - o + m - 1) / m))) else leastGo r f
def leastS (s w t : Pr) : Option Int := leastGo [(s.1, w.1, t.1), (s.2, w.2, t.2)] 0
def goneS (s w : Pr) (o : Int) : Pr := (s.1 + o * w.1, s.2 + o * w.2)
def rowI (r : List Int) : PD := .tuple (r.map .int)
def someB (b w v t : Pr) : List (List Int) := (rgI 0 10).filterMap fun f => (leastS (goneS b w f) v t).map fun g => [f, g]
def leastB (rs : List (List Int)) : List (List Int) := rs.filter fun own => !rs.any fun other => decide (other ≠ own) && belowS other own
def basesS (l : Lot) (t : Pr) : List (List Int) := match l.2 with
  | [] => if belowS [t.1, t.2] [l.1.1, l.1.2] then [[]] else []
  | [w] => match leastS l.1 w t with
    | some o => [[o]]
    | none => []
  | w :: v :: _ => leastB (someB l.1 w v t)
end Ll
set_option Elab.async false
set_option linter.all false
set_option maxRecDepth 100000
set_option maxHeartbeats 4000000
namespace K39
open PySem PySem.Spec PyProof.Rows L2 Pv Xv Ll
section
variable {P : Program} {w : World} {K : PySem.W.Frag} {mg : Str → Option Value} {base : Heap}
theorem big {d : PD} (h : sz1 d) : ∀ ds, d = .tuple ds → ds.length ≤ 100000 := fun ds e => Nat.le_trans (h ds e) (by decide)
theorem shaped_pr (p : Pr) : SeqAt.shaped (prI p) = true := rfl
def isWayR : List Sv → Sv → Prop := fun xs y => ∃ d, xs = [.d d] ∧ sz1 d ∧ y = .d (.bool (isWayS d))
theorem fn_is_way (hm : Md K mg) : Cl P w K mg base 4 "is_way" s_is_way ["value"] (pureSp K isWayR) := by
  have C1 := fn_are_numbers (P := P) (w := w) (base := base) hm
  refine .of hm.d_is_way (fun _ _ _ _ _ _ us hl => match us, hl with | [_], _ => rfl) fun f fd F => fnX F sc_is_way (by rintro _ _ ⟨_, rfl, _⟩; rfl) ?_
  rintro cdv A outer s H hr xs y ⟨d, rfl, hs, rfl⟩
  refine q_ret (x_and (x_call C1 (a_cons x_v (a_cons x_int (a_cons x_int (a_cons (x_gint hm.i_MAX_LINE) a_nil)))) ⟨_, _, _, _, rfl, big hs, rfl⟩) (fun h => x_one ?_)) (.inl ⟨_, rfl⟩)
  obtain ⟨a, b, rfl, _⟩ := areNum2 h
  exact (c'_ned x_v (x_tup (d_cons x_int (d_cons x_int d_nil))) rfl rfl).val
def lineErrR : List Sv → Sv → Prop := fun xs y => ∃ d, xs = [.d d] ∧ Fine d ∧ y = .d (lineErrS d)
theorem zipIdx_odd (xs : List PD) : ((xs.zipIdx.filter fun r => !isWayS r.1).map fun r => PyData.int (r.2 : Int)) = (oddW xs).map fun k => .int (k : Int) := by
  unfold oddW
  rw [List.map_map]
  rfl
theorem way_alike {u v : PD} (hu : isWayS u = true) (hv : isWayS v = true) : PySem.W.alike u v = true ∧ u ≠ .none ∧ u.depth ≤ 50 := by
  obtain ⟨a, b, rfl⟩ := isWay2 hu
  obtain ⟨a', b', rfl⟩ := isWay2 hv
  exact ⟨rfl, (by intro h; cases h), (by show (PyData.tuple [.int a, .int b]).depth ≤ 50; simp [PyData.depth, PyData.depthAll])⟩
theorem fn_line_lot_error (hm : Md K mg) : Cl P w K mg base 5 "line_lot_error" s_line_lot_error ["value"] (pureSp K lineErrR) := by
  have C1 := fn_are_numbers (P := P) (w := w) (base := base) hm
  have C2 := fn_is_way (P := P) (w := w) (base := base) hm
  refine .of hm.d_line_lot_error (fun _ _ _ _ _ _ us hl => match us, hl with | [_], _ => rfl) fun f fd F => fnX F sc_line_lot_error (by rintro _ _ ⟨_, rfl, _⟩; rfl) ?_
  rintro cdv A outer s H hr xs y ⟨d, rfl, hf, rfl⟩
  by_cases hd : ∃ ds, d = .tuple ds
  case neg =>
    have e1 : isTupD d = false := by
      cases d <;> first | rfl | exact absurd ⟨_, rfl⟩ hd
    have e2 : lineErrS d = .str "form" := by
      cases d <;> first | rfl | exact absurd ⟨_, rfl⟩ hd
    refine q_when (t_w (w_or (v := true) (t_not (t_val (x_isinst (bi hm) (bi hm) x_v (kit_tuple d)))) (fun h => by rw [e1] at h; cases h))) (fun _ => ?_) (fun h => by rw [e1] at h; cases h)
    rw [e2]
    exact q_ret x_str (.inl ⟨_, rfl⟩)
  case pos =>
  obtain ⟨ds, rfl⟩ := hd
  by_cases h2 : ds.length = 2
  case neg =>
    have e2 : lineErrS (.tuple ds) = .str "form" := by
      unfold lineErrS
      split
      · rename_i h; cases h; exact absurd rfl h2
      · rfl
    have e3 : decide ((ds.length : Int) = 2) = false := by
      rw [decide_eq_false_iff_not]
      omega
    refine q_when (t_w (w_or (v := true) (t_not (t_val (x_isinst (bi hm) (bi hm) x_v (kit_tuple _)))) (fun _ => .is (w_or (v := true) (c'_nei (x_lenT (bi hm) x_v) x_int).tst (fun h => by rw [e3] at h; cases h)) (by rw [e3]; rfl)))) (fun _ => ?_) (fun h => by cases h)
    rw [e2]
    exact q_ret x_str (.inl ⟨_, rfl⟩)
  case pos =>
  match ds, h2 with
  | [b, w'], _ =>
  by_cases hw : ∃ ws, w' = .tuple ws
  case neg =>
    have e1 : isTupD w' = false := by
      cases w' <;> first | rfl | exact absurd ⟨_, rfl⟩ hw
    have e2 : lineErrS (.tuple [b, w']) = .str "form" := by
      cases w' <;> first | rfl | exact absurd ⟨_, rfl⟩ hw
    refine q_when (t_w (w_or (v := true) (t_not (t_val (x_isinst (bi hm) (bi hm) x_v (kit_tuple _)))) (fun _ => .is (w_or (c'_nei (x_lenT (bi hm) x_v) x_int).tst (fun _ => w_or1 (t_not (t_val (x_isinst (bi hm) (bi hm) (x_ixt x_v x_int rfl) (kit_tuple _)))))) (by rw [e1]; rfl)))) (fun _ => ?_) (fun h => by cases h)
    rw [e2]
    exact q_ret x_str (.inl ⟨_, rfl⟩)
  case pos =>
  obtain ⟨ws, rfl⟩ := hw
  obtain ⟨hb, hl, hws⟩ := hf b ws rfl
  refine q_when (t_w (w_or (v := false) (t_not (t_val (x_isinst (bi hm) (bi hm) x_v (kit_tuple _)))) (fun _ => .is (w_or (c'_nei (x_lenT (bi hm) x_v) x_int).tst (fun _ => w_or1 (t_not (t_val (x_isinst (bi hm) (bi hm) (x_ixt x_v x_int rfl) (kit_tuple _)))))) rfl))) (fun h => by cases h) (fun _ => ?_)
  refine q_asg x_v (xg_2 1 2) ?_
  refine q_when (t_not (t_val (x_call C1 (a_cons x_v (a_cons x_int (a_cons x_int (a_cons (x_gint hm.i_MAX_BASE) a_nil)))) ⟨_, _, _, _, rfl, big hb, rfl⟩))) (fun h => ?_) (fun h => ?_)
  · have e : lineErrS (.tuple [b, .tuple ws]) = .str "base" := by
      show (if areNumS b 2 0 1000 = false then PyData.str "base" else _) = _
      rw [if_pos (by simpa using h)]
    rw [e]
    exact q_ret x_str (.inl ⟨_, rfl⟩)
  have h1 : areNumS b 2 0 1000 = true := by simpa using h
  refine q_when (c'_gt (x_lenT (bi hm) x_v) x_int).tst (fun h => ?_) (fun h => ?_)
  · have e : lineErrS (.tuple [b, .tuple ws]) = .str "many" := by
      show (if areNumS b 2 0 1000 = false then PyData.str "base" else if 2 < ws.length then .str "many" else _) = _
      rw [if_neg (by rw [h1]; exact Bool.noConfusion), if_pos (by have := of_decide_eq_true h; omega)]
    rw [e]
    exact q_ret x_str (.inl ⟨_, rfl⟩)
  have h2 : ¬ 2 < ws.length := by have := of_decide_eq_false h; omega
  have e : lineErrS (.tuple [b, .tuple ws]) = tailErr ws (oddW ws) := by
    show (if areNumS b 2 0 1000 = false then PyData.str "base" else if 2 < ws.length then .str "many" else _) = _
    rw [if_neg (by rw [h1]; exact Bool.noConfusion), if_neg h2]
  have es : SeqAt.shaped (.list ((oddW ws).map fun k : Nat => PyData.int (k : Int))) = true := by
    have h := shaped_ints ((oddW ws).map fun k : Nat => (k : Int))
    rw [List.map_map] at h
    exact h
  have e0 : ws.map (fun x => x) = ws := List.map_id' ws
  refine q_setlcp 3 [("place", 4), ("way", 5)] (fun r : PD × Nat => !isWayS r.1) (fun r => .int (r.2 : Int)) (i_enumT (xs := ws) (f := fun x => x) (bi hm) (by rw [e0]; exact x_v)) (by rw [List.length_zipIdx]; omega) (fun r hr => turn_1 (xg_2 4 5) (t_not (t_val (x_call C2 (a_cons x_v a_nil) ⟨_, rfl, hws _ (List.mem_of_getElem? (List.mem_zipIdx_iff_getElem?.mp hr)), rfl⟩))) (fun _ => x_v)) ?_
  rw [zipIdx_odd]
  refine q_when (c'_neR xr_v (xl_lst d_nil).cold es rfl).tst (fun h => ?_) (fun h => ?_)
  · rw [not_nil_l] at h
    cases ho : oddW ws with
    | nil => rw [ho] at h; cases h
    | cons k t =>
      rw [e, ho]
      exact q_ret (x_tup (d_cons x_str (d_cons (x_ixr xr_v x_int (Pv.atI_nat (k := 0) rfl)) d_nil))) (.inl ⟨_, rfl⟩)
  · rw [not_nil_l] at h
    cases ho : oddW ws with
    | cons k t => rw [ho] at h; cases h
    | nil =>
      rw [e, ho]
      have all : ∀ v ∈ ws, isWayS v = true := by
        intro v hv
        obtain ⟨n, hn, rfl⟩ := List.getElem_of_mem hv
        cases hx : isWayS ws[n] with
        | true => rfl
        | false =>
          have : n ∈ oddW ws := by
            unfold oddW
            rw [List.mem_map]
            refine ⟨(ws[n], n), List.mem_filter.mpr ⟨?_, by simp [hx]⟩, rfl⟩
            exact List.mk_mem_zipIdx_iff_getElem?.mpr (by simp [hn])
          rw [ho] at this
          cases this
      match ws, hl, h2, all with
      | [], _, _, _ => exact q_ret (x_if (t_w (w_and (v := false) (c'_eqi (x_lenT (bi hm) x_v) x_int).tst (fun h => by cases h))) (fun h => by cases h) (fun _ => x_non)) (.inl ⟨_, rfl⟩)
      | [_], _, _, _ => exact q_ret (x_if (t_w (w_and (v := false) (c'_eqi (x_lenT (bi hm) x_v) x_int).tst (fun h => by cases h))) (fun h => by cases h) (fun _ => x_non)) (.inl ⟨_, rfl⟩)
      | [u, v], _, _, all =>
        obtain ⟨a1, a2, a3⟩ := way_alike (all u (by simp)) (all v (by simp))
        refine q_ret (x_if (x := .d (if PySem.W.dataLt u v then .none else .str "order")) (t_w (w_and (v := !PySem.W.dataLt u v) (c'_eqi (x_lenT (bi hm) x_v) x_int).tst (fun _ => w_and1 (c'_geD (x_ixt x_v x_int rfl) (x_ixt x_v x_int rfl) a1 a2 a3).tst))) (fun h => ?_) (fun h => ?_)) (.inl ⟨_, rfl⟩)
        · have : PySem.W.dataLt u v = false := by simpa using h
          rw [this]
          exact x_str
        · have : PySem.W.dataLt u v = true := by simpa using h
          rw [this]
          exact x_non
      | _ :: _ :: _ :: _, _, h2, _ => exact absurd (by simp only [List.length_cons]; omega) h2
def lotsErrR : List Sv → Sv → Prop := fun xs y => ∃ d, xs = [.d d] ∧ (∀ ds, d = .tuple ds → ds.length ≤ 1000 ∧ ∀ l ∈ ds, Fine l) ∧ y = .d (lotsErrS d)
theorem fn_lots_error (hm : Md K mg) : Cl P w K mg base 6 "lots_error" s_lots_error ["value"] (pureSp K lotsErrR) := by
  have C2 := fn_line_lot_error (P := P) (w := w) (base := base) hm
  refine .of hm.d_lots_error (fun _ _ _ _ _ _ us hl => match us, hl with | [_], _ => rfl) fun f fd F => fnX F sc_lots_error (by rintro _ _ ⟨_, rfl, _⟩; rfl) ?_
  rintro cdv A outer s H hr xs y ⟨d, rfl, hf, rfl⟩
  by_cases hd : ∃ ds, d = .tuple ds
  case neg =>
    have e1 : isTupD d = false := by
      cases d <;> first | rfl | exact absurd ⟨_, rfl⟩ hd
    have e2 : lotsErrS d = .str "form" := by
      cases d <;> first | rfl | exact absurd ⟨_, rfl⟩ hd
    refine q_when (t_not (t_val (x_isinst (bi hm) (bi hm) x_v (kit_tuple d)))) (fun _ => ?_) (fun h => by rw [e1] at h; cases h)
    rw [e2]
    exact q_ret x_str (.inl ⟨_, rfl⟩)
  case pos =>
  obtain ⟨ls, rfl⟩ := hd
  obtain ⟨hl, hF⟩ := hf ls rfl
  refine q_when (t_not (t_val (x_isinst (bi hm) (bi hm) x_v (kit_tuple _)))) (fun h => by cases h) (fun _ => ?_)
  refine q_when (c'_gt (x_lenT (bi hm) x_v) (x_gint hm.i_MAX_LINES)).tst (fun h => ?_) (fun h => ?_)
  · have e : lotsErrS (.tuple ls) = .str "many" := by
      show (if 20 < ls.length then PyData.str "many" else _) = _
      rw [if_pos (by have := of_decide_eq_true h; omega)]
    rw [e]
    exact q_ret x_str (.inl ⟨_, rfl⟩)
  have h2 : ¬ 20 < ls.length := by have := of_decide_eq_false h; omega
  have e : lotsErrS (.tuple ls) = match oddL ls with
    | k :: _ => .tuple [.str "lot", .int (k : Int)]
    | [] => .none := by
    show (if 20 < ls.length then PyData.str "many" else _) = _
    exact if_neg h2
  have e0 : ls.map (fun x => x) = ls := List.map_id' ls
  have e1 : ((ls.zipIdx.filter fun r => !isNoneD (lineErrS r.1)).map fun r => PyData.int (r.2 : Int)) = (oddL ls).map fun k => .int (k : Int) := by
    unfold oddL
    rw [List.map_map]
    rfl
  refine q_setlcp 1 [("place", 2), ("lot", 3)] (fun r : PD × Nat => !isNoneD (lineErrS r.1)) (fun r => .int (r.2 : Int)) (i_enumT (xs := ls) (f := fun x => x) (bi hm) (by rw [e0]; exact x_v)) (by rw [List.length_zipIdx]; omega) (fun r hr => turn_1 (xg_2 2 3) (c'_notN (x_call C2 (a_cons x_v a_nil) ⟨_, rfl, hF _ (List.mem_of_getElem? (List.mem_zipIdx_iff_getElem?.mp hr)), rfl⟩)).tst (fun _ => x_v)) ?_
  have es : SeqAt.shaped (.list ((oddL ls).map fun k : Nat => PyData.int (k : Int))) = true := by
    have h := shaped_ints ((oddL ls).map fun k : Nat => (k : Int))
    rw [List.map_map] at h
    exact h
  rw [e1, e]
  cases ho : oddL ls with
  | nil => rw [ho] at es; exact q_ret (x_if (u := false) (XT.is (c'_neR xr_v (xl_lst d_nil).cold es rfl).tst (by rw [not_nil_l]; rfl)) (fun h => by cases h) (fun _ => x_non)) (.inl ⟨_, rfl⟩)
  | cons k t => rw [ho] at es; exact q_ret (x_if (u := true) (XT.is (c'_neR xr_v (xl_lst d_nil).cold es rfl).tst (by rw [not_nil_l]; rfl)) (fun _ => x_tup (d_cons x_str (d_cons (x_ixr xr_v x_int (Pv.atI_nat (k := 0) rfl)) d_nil))) (fun h => by cases h)) (.inl ⟨_, rfl⟩)
end
end K39
set_option Elab.async false
set_option linter.all false
set_option maxRecDepth 100000
set_option maxHeartbeats 4000000
namespace K39
open PySem PySem.Spec PyProof.Rows L2 Pv Xv Ll
section
variable {P : Program} {w : World} {K : PySem.W.Frag} {mg : Str → Option Value} {base : Heap}
theorem natAbs_div {a b : Int} (hb : 0 < b) : (a / b).natAbs ≤ a.natAbs := Int.natAbs_ediv_le_natAbs a b
theorem oftenN_b {v : Pr} {p : Pr} {n : Nat} (hv : WOk v) (hp : PB n p) : (oftenN v p).natAbs < n := by
  unfold oftenN
  unfold WOk at hv
  split
  · exact Nat.lt_of_le_of_lt (natAbs_div (by omega)) hp.1
  · exact Nat.lt_of_le_of_lt (natAbs_div (by omega)) hp.2
def oftenR : List Sv → Sv → Prop := fun xs y => ∃ v p, xs = [.d (prI v), .d (prI p)] ∧ WOk v ∧ PB (10 ^ 10) p ∧ y = .d (optI (oftenS v p))
theorem fn_often_gone (hm : Md K mg) : Cl P w K mg base 1 "often_gone" s_often_gone ["way", "pair"] (pureSp K oftenR) := by
  refine .of hm.d_often_gone (fun _ _ _ _ _ _ us hl => match us, hl with | [_, _], _ => rfl) fun f fd F => fnX F sc_often_gone (by rintro _ _ ⟨_, _, rfl, _⟩; rfl) ?_
  rintro cdv A outer s H hr xs y ⟨v, p, rfl, hv, hp, rfl⟩
  have hb := oftenN_b hv hp
  refine q_asg (x_tup (d_cons x_v (d_cons x_v d_nil))) (xg_tup (xgs_cons (xg_2 2 3) (xgs_cons (xg_2 4 5) xgs_nil))) ?_
  refine q_set 6 (x := .d (.int (oftenN v p))) (x_if (c'_gt x_v x_int).tst (fun h => ?_) (fun h => ?_)) ?_
  · have h1 : 0 < v.1 := of_decide_eq_true h
    refine .is (x_fdiv x_v x_v ⟨h1, by unfold WOk at hv; omega⟩) ?_
    unfold oftenN
    rw [if_pos h1]
  · have h1 : ¬ 0 < v.1 := of_decide_eq_false h
    refine .is (x_fdiv x_v x_v ⟨by unfold WOk at hv; omega, by unfold WOk at hv; omega⟩) ?_
    unfold oftenN
    rw [if_neg h1]
  have e1 : (decide (0 ≤ oftenN v p) && PyData.eqv (.tuple [.int (oftenN v p * v.1), .int (oftenN v p * v.2)]) (prI p)) = (decide (0 ≤ oftenN v p) && decide ((oftenN v p * v.1, oftenN v p * v.2) = p)) := by
    rw [show PyData.tuple [.int (oftenN v p * v.1), .int (oftenN v p * v.2)] = prI (oftenN v p * v.1, oftenN v p * v.2) from rfl, eqv_pair]
  have cm : ∀ z : Int, CMul (oftenN v p) z := fun z => .inl (by omega)
  refine q_ret (x_if (XT.is (t_w (w_and (c'_ge x_v x_int).tst (fun h => w_and1 (c'_eqd (x_tup (d_cons (x_mul x_v x_v (cm _)) (d_cons (x_mul x_v x_v (cm _)) d_nil))) x_v rfl rfl).tst))) e1) (fun h => ?_) (fun h => ?_)) (.inl ⟨_, rfl⟩)
  · unfold oftenS
    rw [if_pos h]
    exact x_v
  · unfold oftenS
    rw [if_neg (by rw [h]; exact Bool.noConfusion)]
    exact x_non
def sumR : List Sv → Sv → Prop := fun xs y => ∃ ws p, xs = [.d (waysD ws), .d (prI p)] ∧ (∀ v ∈ ws, WOk v) ∧ ws.length ≤ 2 ∧ PB (10 ^ 9) p ∧ y = .d (.bool (isSumS ws p))
theorem sub_b {o a p : Int} (h0 : 0 ≤ o) (h1 : o ≤ 2000) (h2 : 0 ≤ a) (h3 : a ≤ 1000) (h4 : p.natAbs < 10 ^ 9) : (p - o * a).natAbs < 10 ^ 10 := by
  have : 0 ≤ o * a := Int.mul_nonneg h0 h2
  have : o * a ≤ 2000 * 1000 := Int.mul_le_mul h1 h3 h2 (by omega)
  omega
theorem smul {a b : Int} (h : 0 ≤ a) (h1 : a ≤ 1000) : CMul a b := .inl (by omega)
theorem smul' {a b : Int} (h : 0 ≤ b) (h1 : b ≤ 1000) : CMul a b := .inr (by omega)
theorem cross_b {v u : Pr} (hv : WOk v) (hu : WOk u) : (crossS v u).natAbs < 1073741824 := by
  unfold crossS
  unfold WOk at hv hu
  have h1 : 0 ≤ v.1 * u.2 := Int.mul_nonneg (by omega) (by omega)
  have h2 : v.1 * u.2 ≤ 1000 * 1000 := Int.mul_le_mul (by omega) (by omega) (by omega) (by omega)
  have h3 : 0 ≤ v.2 * u.1 := Int.mul_nonneg (by omega) (by omega)
  have h4 : v.2 * u.1 ≤ 1000 * 1000 := Int.mul_le_mul (by omega) (by omega) (by omega) (by omega)
  omega
theorem fn_is_way_sum (hm : Md K mg) : Cl P w K mg base 2 "is_way_sum" s_is_way_sum ["ways", "pair"] (pureSp K sumR) := by
  have C1 := fn_often_gone (P := P) (w := w) (base := base) hm
  refine .of hm.d_is_way_sum (fun _ _ _ _ _ _ us hl => match us, hl with | [_, _], _ => rfl) fun f fd F => fnX F sc_is_way_sum (by rintro _ _ ⟨_, _, rfl, _⟩; rfl) ?_
  rintro cdv A outer s H hr xs y ⟨ws, p, rfl, hw, hl, hp, rfl⟩
  match ws, hl, hw with
  | [], _, _ =>
    refine q_when (u := true) (XT.is (c'_eqd x_v (x_tup d_nil) rfl rfl).tst rfl) (fun _ => ?_) (fun h => by cases h)
    refine q_ret (.is (c'_eqd x_v (x_tup (d_cons x_int (d_cons x_int d_nil))) rfl rfl).val ?_) (.inl ⟨_, rfl⟩)
    rw [show PyData.tuple [.int 0, .int 0] = prI (0, 0) from rfl, eqv_pair]
    rfl
  | [v], _, hw =>
    refine q_when (u := false) (XT.is (c'_eqd x_v (x_tup d_nil) rfl rfl).tst rfl) (fun h => by cases h) (fun _ => ?_)
    refine q_when (u := true) (XT.is (c'_eqi (x_lenT (bi hm) x_v) x_int).tst rfl) (fun _ => ?_) (fun h => by cases h)
    refine q_ret (.is (c'_notN (x_call C1 (a_cons (x_ixt x_v x_int rfl) (a_cons x_v a_nil)) ⟨v, p, rfl, hw v (by simp), ⟨by have := hp.1; omega, by have := hp.2; omega⟩, rfl⟩)).val ?_) (.inl ⟨_, rfl⟩)
    rw [optI_none, Bool.not_not]
    rfl
  | [u, v], _, hw =>
    have hu := hw u (by simp)
    have hv := hw v (by simp)
    have hu' := hu
    have hv' := hv
    unfold WOk at hu' hv'
    obtain ⟨p1, p2⟩ := hp
    refine q_when (u := false) (XT.is (c'_eqd x_v (x_tup d_nil) rfl rfl).tst rfl) (fun h => by cases h) (fun _ => ?_)
    refine q_when (u := false) (XT.is (c'_eqi (x_lenT (bi hm) x_v) x_int).tst rfl) (fun h => by cases h) (fun _ => ?_)
    refine q_asg x_v (xg_tup (ds := [prI u, prI v]) (xgs_cons (xg_2 2 3) (xgs_cons (xg_2 4 5) xgs_nil))) ?_
    refine q_set 6 (x := .d (.int (crossS u v))) (x_sub (x_mul x_v x_v (smul (by omega) (by omega))) (x_mul x_v x_v (smul (by omega) (by omega)))) ?_
    refine q_when (c'_nei x_v x_int).tst (fun h => ?_) (fun h => ?_)
    · have h0 : crossS u v ≠ 0 := by simpa using h
      refine q_par2 7 8 (x := .d (.int (p.1 * v.2 - p.2 * v.1))) (y := .d (.int (u.1 * p.2 - u.2 * p.1))) (a_cons (x_sub (x_mul (x_ixt x_v x_int rfl) x_v (smul' (by omega) (by omega))) (x_mul (x_ixt x_v x_int rfl) x_v (smul' (by omega) (by omega)))) (a_cons (x_sub (x_mul x_v (x_ixt x_v x_int rfl) (smul (by omega) (by omega))) (x_mul x_v (x_ixt x_v x_int rfl) (smul (by omega) (by omega)))) a_nil)) ?_
      refine q_ret (.is (x_and (c'_eqi (x_modN x_v x_v h0) x_int).val (fun _ => x_and (c'_eqi (x_modN x_v x_v h0) x_int).val (fun _ => x_and (c'_ge (x_fdivN x_v x_v ⟨h0, cross_b hu hv⟩) x_int).val (fun _ => x_one (c'_ge (x_fdivN x_v x_v ⟨h0, cross_b hu hv⟩) x_int).val)))) ?_) (.inl ⟨_, rfl⟩)
      show _ = Sv.d (.bool (if crossS u v = 0 then _ else _))
      rw [if_neg h0]
    · have h0 : crossS u v = 0 := by simpa using h
      have e0 : isSumS [u, v] p = (rgI 0 (v.1 + v.2).toNat).any fun o => (oftenS v (p.1 - o * u.1, p.2 - o * u.2)).isSome := by
        show (if crossS u v = 0 then _ else _) = _
        rw [if_pos h0]
      refine q_for (fun done Γ (_ : Unit) => (∃ s1 : Sl, Γ = [.v (.d (waysD [u, v])), .v (.d (prI p)), .v (.d (.int u.1)), .v (.d (.int u.2)), .v (.d (.int v.1)), .v (.d (.int v.2)), .v (.d (.int (crossS u v))), .no, .no, s1]) ∧ (done.any fun o => (oftenS v (p.1 - o * u.1, p.2 - o * u.2)).isSome) = false)
        (i_rg1 (bi hm) (x_add x_v x_v) (by omega)) ⟨⟨_, rfl⟩, rfl⟩ ?_ ?_
      · rintro done o todo _ c hx ⟨⟨s1, rfl⟩, hd⟩
        have ho : o ∈ rgI 0 (v.1 + v.2).toNat := by rw [hx]; simp
        have ho' : 0 ≤ o ∧ o ≤ 2000 := by
          unfold rgI at ho
          rw [List.mem_map] at ho
          obtain ⟨k, hk, rfl⟩ := ho
          rw [List.mem_range] at hk
          omega
        refine ⟨_, _, xg_n 9, ?_⟩
        refine q_when (c'_notN (x_call C1 (a_cons (x_ixt x_v x_int rfl) (a_cons (x_tup (d_cons (x_sub (x_ixt x_v x_int rfl) (x_mul x_v x_v (smul' (by omega) (by omega)))) (d_cons (x_sub (x_ixt x_v x_int rfl) (x_mul x_v x_v (smul' (by omega) (by omega)))) d_nil))) a_nil)) ⟨v, (p.1 - o * u.1, p.2 - o * u.2), rfl, hv, ⟨sub_b ho'.1 ho'.2 (by omega) (by omega) p1, sub_b ho'.1 ho'.2 (by omega) (by omega) p2⟩, rfl⟩)).tst (fun h => ?_) (fun h => ?_)
        · rw [optI_none, Bool.not_not] at h
          refine q_ret (.is x_bl ?_) (.inl ⟨_, rfl⟩)
          rw [e0, hx]
          simp [h]
        · rw [optI_none, Bool.not_not] at h
          refine q_nil ⟨⟨_, rfl⟩, ?_⟩
          rw [List.any_append, hd, List.any_cons, h]
          rfl
      · rintro _ c ⟨⟨s1, rfl⟩, hd⟩
        refine q_ret (.is x_bl ?_) (.inl ⟨_, rfl⟩)
        rw [e0, hd]
  | _ :: _ :: _ :: _, hl, _ => exact absurd hl (by simp only [List.length_cons]; omega)
def inLotR : List Sv → Sv → Prop := fun xs y => ∃ l st, xs = [.d (lotD l), .d (prI st)] ∧ LOk l ∧ PB (10 ^ 8) st ∧ y = .d (.bool (inLotS l st))
theorem fn_is_in_lot (hm : Md K mg) : Cl P w K mg base 3 "is_in_lot" s_is_in_lot ["lot", "state"] (pureSp K inLotR) := by
  have C1 := fn_is_way_sum (P := P) (w := w) (base := base) hm
  refine .of hm.d_is_in_lot (fun _ _ _ _ _ _ us hl => match us, hl with | [_, _], _ => rfl) fun f fd F => fnX F sc_is_in_lot (by rintro _ _ ⟨_, _, rfl, _⟩; rfl) ?_
  rintro cdv A outer s H hr xs y ⟨l, st, rfl, hl, hst, rfl⟩
  obtain ⟨b1, b2⟩ := hl.b
  obtain ⟨s1, s2⟩ := hst
  refine q_asg x_v (xg_2 (d := prI l.1) (d2 := waysD l.2) 2 3) ?_
  exact q_ret (x_call C1 (a_cons x_v (a_cons (x_tup (d_cons (x_sub (x_ixt x_v x_int rfl) (x_ixt x_v x_int rfl)) (d_cons (x_sub (x_ixt x_v x_int rfl) (x_ixt x_v x_int rfl)) d_nil))) a_nil)) ⟨l.2, (st.1 - l.1.1, st.2 - l.1.2), rfl, hl.w, hl.n, ⟨by show (st.1 - l.1.1).natAbs < _; omega, by show (st.2 - l.1.2).natAbs < _; omega⟩, rfl⟩) (.inl ⟨_, rfl⟩)
def inLotsR : List Sv → Sv → Prop := fun xs y => ∃ ls st, xs = [.d (lotsD ls), .d (prI st)] ∧ (∀ l ∈ ls, LOk l) ∧ ls.length ≤ 1000 ∧ PB (10 ^ 8) st ∧ y = .d (.bool (inLotsS ls st))
theorem fn_is_in_lots (hm : Md K mg) : Cl P w K mg base 4 "is_in_lots" s_is_in_lots ["lots", "state"] (pureSp K inLotsR) := by
  have C1 := fn_is_in_lot (P := P) (w := w) (base := base) hm
  refine .of hm.d_is_in_lots (fun _ _ _ _ _ _ us hl => match us, hl with | [_, _], _ => rfl) fun f fd F => fnX F sc_is_in_lots (by rintro _ _ ⟨_, _, rfl, _⟩; rfl) ?_
  rintro cdv A outer s H hr xs y ⟨ls, st, rfl, hl, hn, hst, rfl⟩
  exact q_ret (x_anyM (bi hm) (xl_lcM [("lot", 2)] (fun l => .bool (inLotS l st)) (i_tup (xs := ls) (enc := lotD) x_v) (by omega) (fun l hl' => turn_m (xg_n 2) (x_call C1 (a_cons x_v (a_cons x_v a_nil)) ⟨l, st, rfl, hl l hl', hst, rfl⟩)))) (.inl ⟨_, rfl⟩)
def gridR : List Sv → Sv → Prop := fun xs y => ∃ t : Int, xs = [.d (.int t)] ∧ 0 ≤ t ∧ t ≤ 100 ∧ y = .d (.list ((gridS t).map prI))
theorem fn_grid_points (hm : Md K mg) : Cl P w K mg base 1 "grid_points" s_grid_points ["top"] (pureSp K gridR) := by
  refine .of hm.d_grid_points (fun _ _ _ _ _ _ us hl => match us, hl with | [_], _ => rfl) fun f fd F => fnX F sc_grid_points (by rintro _ _ ⟨_, rfl, _⟩; rfl) ?_
  rintro cdv A outer s H hr xs y ⟨t, rfl, h0, h1, rfl⟩
  refine q_setl 1 (xl_lst d_nil) ?_
  refine q_for (fun done Γ (_ : Unit) => ∃ (s1 : Sl) (ps : List Pr), Γ = [.v (.d (.int t)), .l (ps.map prI), s1, .no] ∧ ps = (done.flatMap fun x => (rgI 0 (t + 1).toNat).map fun y => (x, y)) ∧ ps.length ≤ 101 * done.length) (i_rg1 (bi hm) (x_add x_v x_int) (by omega)) ⟨.no, [], rfl, rfl, by simp⟩ ?_ ?_
  · rintro done x todo _ c hx ⟨s1, ps, rfl, he, hn⟩
    have hlen : done.length < 101 := by
      have := congrArg List.length hx
      rw [rgI_len, List.length_append, List.length_cons] at this
      omega
    refine ⟨_, _, xg_n 2, ?_⟩
    refine q_extend 1 (es' := ((rgI 0 (t + 1).toNat).map fun y => prI (x, y))) (xl_lcM [("y", 3)] (fun y => prI (x, y)) (i_rg1 (bi hm) (x_add x_v x_int) (by omega)) (by rw [rgI_len]; omega) (fun y _ => turn_m (xg_n 3) (x_tup (d_cons x_v (d_cons x_v d_nil))))) rfl (by rw [List.length_map, List.length_map, rgI_len]; omega) ?_
    refine q_nil ⟨.v (.d (.int x)), ps ++ (rgI 0 (t + 1).toNat).map fun y => (x, y), ?_, ?_, ?_⟩
    · rw [List.map_append, List.map_map]
      rfl
    · rw [List.flatMap_append, ← he]
      simp
    · rw [List.length_append, List.length_append, List.length_map, rgI_len]
      simp only [List.length_cons, List.length_nil]
      omega
  · rintro _ c ⟨s1, ps, rfl, he, hn⟩
    refine q_ice 1 rfl ?_
    rw [he]
    exact q_ret x_v (.inl ⟨_, rfl⟩)
theorem grid_b {t : Int} (h0 : 0 ≤ t) (h1 : t ≤ 100) : ∀ p ∈ gridS t, 0 ≤ p.1 ∧ p.1 ≤ t ∧ 0 ≤ p.2 ∧ p.2 ≤ t := by
  intro p hp
  unfold gridS rgI at hp
  simp only [List.mem_flatMap, List.mem_map, List.mem_range] at hp
  obtain ⟨x, ⟨k, hk, rfl⟩, y, ⟨k', hk', rfl⟩, rfl⟩ := hp
  simp only
  omega
theorem grid_len {t : Int} (h0 : 0 ≤ t) (h1 : t ≤ 100) : (gridS t).length ≤ 10201 := by
  unfold gridS
  rw [List.length_flatMap]
  simp only [List.length_map, rgI_len]
  rw [List.map_const', List.sum_replicate_nat, rgI_len]
  exact Nat.le_trans (Nat.mul_le_mul (show (t + 1).toNat ≤ 101 by omega) (show (t + 1).toNat ≤ 101 by omega)) (by decide)
def statesR : List Sv → Sv → Prop := fun xs y => ∃ l t, xs = [.d (lotD l), .d (.int t)] ∧ LOk l ∧ 0 ≤ t ∧ t ≤ 100 ∧ y = .d (.tuple ((lotStatesS l t).map prI))
theorem fn_lot_states (hm : Md K mg) : Cl P w K mg base 4 "lot_states" s_lot_states ["lot", "top"] (pureSp K statesR) := by
  have C1 := fn_is_in_lot (P := P) (w := w) (base := base) hm
  have C2 := fn_grid_points (P := P) (w := w) (base := base) hm
  refine .of hm.d_lot_states (fun _ _ _ _ _ _ us hl => match us, hl with | [_, _], _ => rfl) fun f fd F => fnX F sc_lot_states (by rintro _ _ ⟨_, _, rfl, _⟩; rfl) ?_
  rintro cdv A outer s H hr xs y ⟨l, t, rfl, hl, h0, h1, rfl⟩
  refine q_ret (x_tupR (bi hm) (XL.r (xl_lc [("state", 2)] (fun st => inLotS l st) prI (i_lst (xs := gridS t) (enc := prI) (x_call C2 (a_cons x_v a_nil) ⟨t, rfl, h0, h1, rfl⟩)) (Nat.le_trans (grid_len h0 h1) (by decide)) (fun st hst => turn_1 (xg_n 2) (t_val (x_call C1 (a_cons x_v (a_cons x_v a_nil)) ⟨l, st, rfl, hl, ?_, rfl⟩)) (fun _ => x_v)))) ) (.inl ⟨_, rfl⟩)
  have := grid_b h0 h1 st hst
  exact ⟨by omega, by omega⟩
def apartR : List Sv → Sv → Prop := fun xs y => ∃ l1 l2 t, xs = [.d (lotsD l1), .d (lotsD l2), .d (.int t)] ∧ (∀ l ∈ l1, LOk l) ∧ l1.length ≤ 1000 ∧ (∀ l ∈ l2, LOk l) ∧ l2.length ≤ 1000 ∧ 0 ≤ t ∧ t ≤ 100 ∧ y = .d (optP (apartS l1 l2 t))
theorem fn_first_apart_state (hm : Md K mg) : Cl P w K mg base 5 "first_apart_state" s_first_apart_state ["one", "other", "top"] (pureSp K apartR) := by
  have C1 := fn_is_in_lots (P := P) (w := w) (base := base) hm
  have C2 := fn_grid_points (P := P) (w := w) (base := base) hm
  refine .of hm.d_first_apart_state (fun _ _ _ _ _ _ us hl => match us, hl with | [_, _, _], _ => rfl) fun f fd F => fnX F sc_first_apart_state (by rintro _ _ ⟨_, _, _, rfl, _⟩; rfl) ?_
  rintro cdv A outer s H hr xs y ⟨l1, l2, t, rfl, g1, n1, g2, n2, h0, h1, rfl⟩
  refine q_for (fun done Γ (_ : Unit) => (∃ s1 : Sl, Γ = [.v (.d (lotsD l1)), .v (.d (lotsD l2)), .v (.d (.int t)), s1]) ∧ (done.find? fun s => inLotsS l1 s != inLotsS l2 s) = none) (i_lst (xs := gridS t) (enc := prI) (x_call C2 (a_cons x_v a_nil) ⟨t, rfl, h0, h1, rfl⟩)) ⟨⟨_, rfl⟩, rfl⟩ ?_ ?_
  · rintro done st todo _ c hx ⟨⟨s1, rfl⟩, hd⟩
    have hst : PB (10 ^ 8) st := by
      have := grid_b h0 h1 st (by rw [hx]; simp)
      exact ⟨by omega, by omega⟩
    have ec : (!PyData.eqv (.bool (inLotsS l1 st)) (.bool (inLotsS l2 st))) = (inLotsS l1 st != inLotsS l2 st) := by
      cases inLotsS l1 st <;> cases inLotsS l2 st <;> rfl
    refine ⟨_, _, xg_n 3, ?_⟩
    refine q_when (XC.is (c'_ned (x_call C1 (a_cons x_v (a_cons x_v a_nil)) ⟨l1, st, rfl, g1, n1, hst, rfl⟩) (x_call C1 (a_cons x_v (a_cons x_v a_nil)) ⟨l2, st, rfl, g2, n2, hst, rfl⟩) rfl rfl) ec).tst (fun h => ?_) (fun h => ?_)
    · refine q_ret (.is x_v ?_) (.inl ⟨_, rfl⟩)
      unfold apartS
      rw [hx, List.find?_append, hd, List.find?_cons, h]
      rfl
    · refine q_nil ⟨⟨_, rfl⟩, ?_⟩
      rw [List.find?_append, hd, List.find?_cons, h]
      rfl
  · rintro _ c ⟨⟨s1, rfl⟩, hd⟩
    refine q_ret (.is x_non ?_) (.inl ⟨_, rfl⟩)
    unfold apartS
    rw [hd]
    rfl
end
end K39
set_option Elab.async false
set_option linter.all false
set_option maxRecDepth 100000
set_option maxHeartbeats 4000000
namespace K39
open PySem PySem.Spec PyProof.Rows L2 Pv Xv Ll
section
variable {P : Program} {w : World} {K : PySem.W.Frag} {mg : Str → Option Value} {base : Heap}
theorem eqv_row : ∀ (a b : List Int), PyData.eqv (rowI a) (rowI b) = decide (a = b) := by
  intro a b
  show PyData.eqv (.tuple (a.map .int)) (.tuple (b.map .int)) = _
  have key : ∀ a b : List Int, PyData.eqvAll (a.map PyData.int) (b.map PyData.int) = decide (a = b) := by
    intro a
    induction a with
    | nil => intro b; cases b <;> simp [PyData.eqvAll]
    | cons x a ih =>
      intro b
      cases b with
      | nil => simp [PyData.eqvAll]
      | cons z b => simp only [List.map_cons, PyData.eqvAll, PyData.eqv, ih b]; by_cases h : x = z <;> simp [h]
  simp only [PyData.eqv]
  exact key a b
theorem shaped_row (r : List Int) : SeqAt.shaped (rowI r) = true := (shp_tup (k := 0) (shp_map shp_int)).ok
def belowR : List Sv → Sv → Prop := fun xs y => ∃ a b, xs = [.d (rowI a), .d (rowI b)] ∧ a.length ≤ 1000 ∧ y = .d (.bool (belowS a b))
theorem fn_is_below (hm : Md K mg) : Cl P w K mg base 1 "is_below" s_is_below ["one", "other"] (pureSp K belowR) := by
  refine .of hm.d_is_below (fun _ _ _ _ _ _ us hl => match us, hl with | [_, _], _ => rfl) fun f fd F => fnX F sc_is_below (by rintro _ _ ⟨_, _, rfl, _⟩; rfl) ?_
  rintro cdv A outer s H hr xs y ⟨a, b, rfl, hl, rfl⟩
  refine q_ret (x_allM (bi hm) (xl_lcM [("own", 2), ("further", 3)] (fun r : Int × Int => .bool (decide (r.1 ≤ r.2))) (i_zip (xs := a) (ys := b) (f := .int) (g := .int) (bi hm) x_v x_v) ?_ (fun r _ => turn_m (xg_2 2 3) (c'_leq x_v x_v).val))) (.inl ⟨_, rfl⟩)
  rw [List.length_zip]
  omega
def leastR : List Sv → Sv → Prop := fun xs y => ∃ s v t, xs = [.d (prI s), .d (prI v), .d (prI t)] ∧ WOk v ∧ y = .d (optI (leastS s v t))
theorem fn_least_often (hm : Md K mg) : Cl P w K mg base 1 "least_often" s_least_often ["state", "way", "takes"] (pureSp K leastR) := by
  refine .of hm.d_least_often (fun _ _ _ _ _ _ us hl => match us, hl with | [_, _, _], _ => rfl) fun f fd F => fnX F sc_least_often (by rintro _ _ ⟨_, _, _, rfl, _⟩; rfl) ?_
  rintro cdv A outer s H hr xs y ⟨st, v, t, rfl, hv, rfl⟩
  refine q_set 3 x_int ?_
  refine q_for (fun done Γ (_ : Unit) => ∃ (s1 s2 s3 : Sl) (g : Int), Γ = [.v (.d (prI st)), .v (.d (prI v)), .v (.d (prI t)), .v (.d (.int g)), s1, s2, s3] ∧ ∀ todo, [(st.1, v.1, t.1), (st.2, v.2, t.2)] = done ++ todo → leastS st v t = leastGo todo g)
    (i_zip3 (xs := [st.1, st.2]) (ys := [v.1, v.2]) (zs := [t.1, t.2]) (f := .int) (g := .int) (h := .int) (bi hm) x_v x_v x_v) ⟨_, _, _, _, rfl, fun todo e => ?_⟩ ?_ ?_
  · rw [List.nil_append] at e
    rw [← e]
    rfl
  · rintro done ⟨o, m, k⟩ todo _ c hx ⟨s1, s2, s3, g, rfl, hI⟩
    have hI' := hI _ hx
    have hm' : 0 ≤ m ∧ m ≤ 1000 := by
      unfold WOk at hv
      have : (o, m, k) ∈ [(st.1, v.1, t.1), (st.2, v.2, t.2)] := by
        have e : [(st.1, v.1, t.1), (st.2, v.2, t.2)] = done ++ (o, m, k) :: todo := hx
        rw [e]
        simp
      simp only [List.mem_cons, List.not_mem_nil, or_false, Prod.mk.injEq] at this
      rcases this with ⟨_, rfl, _⟩ | ⟨_, rfl, _⟩ <;> omega
    have nx : ∀ r : List (Int × Int × Int), [(st.1, v.1, t.1), (st.2, v.2, t.2)] = (done ++ [(o, m, k)]) ++ r → r = todo := by
      intro r e
      have e2 : [(st.1, v.1, t.1), (st.2, v.2, t.2)] = done ++ (o, m, k) :: todo := hx
      rw [e2, List.append_assoc] at e
      have := List.append_cancel_left e
      simp at this
      exact this.symm
    refine ⟨_, _, xg_3 4 5 6, ?_⟩
    refine q_when (c'_lt x_v x_v).tst (fun h => ?_) (fun h => ?_)
    · have h1 : o < k := of_decide_eq_true h
      rw [leastGo, if_pos h1] at hI'
      refine q_when (c'_eqi x_v x_int).tst (fun h0 => ?_) (fun h0 => ?_)
      · have h2 : m = 0 := of_decide_eq_true h0
        rw [if_pos h2] at hI'
        refine q_ret (.is x_non ?_) (.inl ⟨_, rfl⟩)
        rw [hI']
        rfl
      · have h2 : ¬ m = 0 := of_decide_eq_false h0
        rw [if_neg h2] at hI'
        refine q_set 3 (x_max2 (bi hm) x_v (x_fdiv (x_sub (x_add (x_sub x_v x_v) x_v) x_int) x_v ⟨show 0 < m by omega, show m < 1073741824 by omega⟩)) (q_nil (q_nil ⟨_, _, _, _, rfl, fun r e => ?_⟩))
        rw [nx r e]
        exact hI'
    · have h1 : ¬ o < k := of_decide_eq_false h
      rw [leastGo, if_neg h1] at hI'
      refine q_nil ⟨_, _, _, _, rfl, fun r e => ?_⟩
      rw [nx r e]
      exact hI'
  · rintro _ c ⟨s1, s2, s3, g, rfl, hI⟩
    refine q_ret (.is x_v ?_) (.inl ⟨_, rfl⟩)
    rw [hI [] (by rw [List.append_nil]; rfl)]
    rfl
def goneR : List Sv → Sv → Prop := fun xs y => ∃ s v o, xs = [.d (prI s), .d (prI v), .d (.int o)] ∧ WOk v ∧ y = .d (prI (goneS s v o))
theorem fn_gone_on (hm : Md K mg) : Cl P w K mg base 1 "gone_on" s_gone_on ["state", "way", "often"] (pureSp K goneR) := by
  refine .of hm.d_gone_on (fun _ _ _ _ _ _ us hl => match us, hl with | [_, _, _], _ => rfl) fun f fd F => fnX F sc_gone_on (by rintro _ _ ⟨_, _, _, rfl, _⟩; rfl) ?_
  rintro cdv A outer s H hr xs y ⟨st, v, o, rfl, hv, rfl⟩
  refine q_ret (.is (x_tupR (bi hm) (XL.r (xl_lcM [("own", 3), ("more", 4)] (fun r : Int × Int => .int (r.1 + o * r.2)) (i_zip (xs := [st.1, st.2]) (ys := [v.1, v.2]) (f := .int) (g := .int) (bi hm) x_v x_v) (by rw [List.length_zip]; exact Nat.le_of_ble_eq_true rfl) (fun r hr => turn_m (xg_2 3 4) (x_add x_v (x_mul x_v x_v (smul' ?_ ?_))))))) rfl) (.inl ⟨_, rfl⟩)
  all_goals
    unfold WOk at hv
    simp only [List.zip_cons_cons, List.zip_nil_right, List.mem_cons, List.not_mem_nil, or_false] at hr
    rcases hr with rfl | rfl <;> simp only <;> omega
def basesR : List Sv → Sv → Prop := fun xs y => ∃ l t, xs = [.d (lotD l), .d (prI t)] ∧ LOk l ∧ y = .d (.tuple ((basesS l t).map rowI))
theorem filterMap_app {α β : Type} (f : α → Option β) (a : List α) (x : α) : (a ++ [x]).filterMap f = a.filterMap f ++ (match f x with | some b => [b] | none => []) := by
  rw [List.filterMap_append]
  cases h : f x <;> simp [h]
theorem fn_let_bases (hm : Md K mg) : Cl P w K mg base 2 "let_bases" s_let_bases ["lot", "takes"] (pureSp K basesR) := by
  have C1 := fn_is_below (P := P) (w := w) (base := base) hm
  have C2 := fn_least_often (P := P) (w := w) (base := base) hm
  have C3 := fn_gone_on (P := P) (w := w) (base := base) hm
  refine .of hm.d_let_bases (fun _ _ _ _ _ _ us hl => match us, hl with | [_, _], _ => rfl) fun f fd F => fnX F sc_let_bases (by rintro _ _ ⟨_, _, rfl, _⟩; rfl) ?_
  rintro cdv A outer s H hr xs y ⟨⟨b, ws⟩, t, rfl, hl, rfl⟩
  have hn := hl.n
  have hw := hl.w
  simp only at hn hw
  refine q_asg x_v (xg_2 (d := prI b) (d2 := waysD ws) 2 3) ?_
  match ws, hn, hw with
  | [], _, _ =>
    refine q_when (u := true) (XT.is (c'_eqd x_v (x_tup d_nil) rfl rfl).tst rfl) (fun _ => ?_) (fun h => by cases h)
    refine q_ret (x_if (t_val (x_call C1 (a_cons x_v (a_cons x_v a_nil)) ⟨[t.1, t.2], [b.1, b.2], rfl, by simp, rfl⟩)) (fun h => ?_) (fun h => ?_)) (.inl ⟨_, rfl⟩)
    · refine .is (x_tup (d_cons (x_tup d_nil) d_nil)) ?_
      show _ = Sv.d (.tuple ((if belowS [t.1, t.2] [b.1, b.2] then [[]] else []).map rowI))
      rw [if_pos h]
      rfl
    · refine .is (x_tup d_nil) ?_
      show _ = Sv.d (.tuple ((if belowS [t.1, t.2] [b.1, b.2] then [[]] else []).map rowI))
      rw [if_neg (by rw [h]; exact Bool.noConfusion)]
      rfl
  | [v], _, hw =>
    refine q_when (u := false) (XT.is (c'_eqd x_v (x_tup d_nil) rfl rfl).tst rfl) (fun h => by cases h) (fun _ => ?_)
    refine q_when (u := true) (XT.is (c'_eqi (x_lenT (bi hm) x_v) x_int).tst rfl) (fun _ => ?_) (fun h => by cases h)
    refine q_set 4 (x_call C2 (a_cons x_v (a_cons (x_ixt x_v x_int rfl) (a_cons x_v a_nil))) ⟨b, v, t, rfl, hw v (by simp), rfl⟩) ?_
    have e : basesS (b, [v]) t = match leastS b v t with
      | some o => [[o]]
      | none => [] := rfl
    rw [e]
    cases leastS b v t with
    | none => exact q_ret (x_if (u := false) (XT.is (c'_notN x_v).tst rfl) (fun h => by cases h) (fun _ => x_tup d_nil)) (.inl ⟨_, rfl⟩)
    | some o => exact q_ret (x_if (u := true) (XT.is (c'_notN x_v).tst rfl) (fun _ => x_tup (d_cons (x_tup (d_cons x_v d_nil)) d_nil)) (fun h => by cases h)) (.inl ⟨_, rfl⟩)
  | [u, v], _, hw =>
    have hu := hw u (by simp)
    have hv := hw v (by simp)
    refine q_when (u := false) (XT.is (c'_eqd x_v (x_tup d_nil) rfl rfl).tst rfl) (fun h => by cases h) (fun _ => ?_)
    refine q_when (u := false) (XT.is (c'_eqi (x_lenT (bi hm) x_v) x_int).tst rfl) (fun h => by cases h) (fun _ => ?_)
    refine q_setl 5 (xl_lst d_nil) ?_
    refine q_for (fun done Γ (_ : Unit) => ∃ (s1 s2 : Sl) (rs : List (List Int)), Γ = [.v (.d (lotD (b, [u, v]))), .v (.d (prI t)), .v (.d (prI b)), .v (.d (waysD [u, v])), .no, .l (rs.map rowI), s1, s2, .no, .no, .no] ∧ rs = (done.filterMap fun f => (leastS (goneS b u f) v t).map fun g => [f, g]) ∧ rs.length ≤ done.length)
      (i_rg1 (bi hm) (x_add (x_gint hm.i_MAX_WEIGHT) x_int) (by omega)) ⟨.no, .no, [], rfl, rfl, Nat.le_refl _⟩ ?_ ?_
    · rintro done o todo _ c hx ⟨s1, s2, rs, rfl, he, hz⟩
      have hlen : done.length < 11 := by
        have := congrArg List.length hx
        rw [rgI_len, List.length_append, List.length_cons] at this
        omega
      refine ⟨_, _, xg_n 6, ?_⟩
      refine q_set 7 (x_call C2 (a_cons (x_call C3 (a_cons x_v (a_cons (x_ixt x_v x_int rfl) (a_cons x_v a_nil))) ⟨b, u, o, rfl, hu, rfl⟩) (a_cons (x_ixt x_v x_int rfl) (a_cons x_v a_nil))) ⟨goneS b u o, v, t, rfl, hv, rfl⟩) ?_
      have ea := filterMap_app (fun f => (leastS (goneS b u f) v t).map fun g => [f, g]) done o
      cases hg : leastS (goneS b u o) v t with
      | none =>
        rw [hg] at ea
        refine q_when (u := false) (XT.is (c'_notN x_v).tst rfl) (fun h => by cases h) (fun _ => q_nil ⟨_, _, rs, rfl, ?_, ?_⟩)
        · rw [ea, ← he]
          simp
        · rw [List.length_append]
          simp only [List.length_cons, List.length_nil]
          omega
      | some g =>
        rw [hg] at ea
        refine q_when (u := true) (XT.is (c'_notN x_v).tst rfl) (fun _ => ?_) (fun h => by cases h)
        refine q_append 5 (x_tup (d_cons x_v (d_cons x_v d_nil))) rfl (by rw [List.length_map]; omega) ?_
        refine q_nil (q_nil ⟨.v (.d (.int o)), .v (.d (.int g)), rs ++ [[o, g]], ?_, ?_, ?_⟩)
        · rw [List.map_append]
          rfl
        · rw [ea, ← he]
          rfl
        · rw [List.length_append, List.length_append]
          simp only [List.length_cons, List.length_nil]
          omega
    · rintro _ c ⟨s1, s2, rs, rfl, he, hz⟩
      have hz' : rs.length ≤ 10 := by rw [rgI_len] at hz; exact hz
      have eb : basesS (b, [u, v]) t = leastB rs := by
        rw [he]
        rfl
      rw [eb]
      have hrs : ∀ r ∈ rs, r.length ≤ 1000 := by
        intro r hr'
        rw [he, List.mem_filterMap] at hr'
        obtain ⟨f, _, h2⟩ := hr'
        cases hq : leastS (goneS b u f) v t with
        | none => rw [hq] at h2; cases h2
        | some g =>
          rw [hq] at h2
          cases h2
          simp
      refine q_ice 5 rfl ?_
      refine q_setl 8 (xl_lst d_nil) ?_
      refine q_for (fun done Γ (_ : Unit) => ∃ (s3 : Sl) (fs : List (List Int)), Γ = [.v (.d (lotD (b, [u, v]))), .v (.d (prI t)), .v (.d (prI b)), .v (.d (waysD [u, v])), .no, .v (.d (.list (rs.map rowI))), s1, s2, .l (fs.map rowI), s3, .no] ∧ fs = (done.filter fun own => !rs.any fun other => decide (other ≠ own) && belowS other own) ∧ fs.length ≤ done.length)
        (i_lst (xs := rs) (enc := rowI) x_v) ⟨.no, [], rfl, rfl, Nat.le_refl _⟩ ?_ ?_
      · rintro done own todo _ c hx ⟨s3, fs, rfl, hf, hq⟩
        have hlen : done.length < 10 := by
          have := congrArg List.length hx
          rw [List.length_append, List.length_cons] at this
          omega
        refine ⟨_, _, xg_n 9, ?_⟩
        refine q_when (t_not (t_val (x_anyM (q := fun other => decide (other ≠ own) && belowS other own) (bi hm) (xl_lcM [("other", 10)] (fun other : List Int => .bool (decide (other ≠ own) && belowS other own)) (i_lst (xs := rs) (enc := rowI) x_v) (by omega) (fun other ho => turn_m (xg_n 10) (.is (x_and (c'_ned x_v x_v (shaped_row other) (shaped_row own)).val (fun _ => x_one (x_call C1 (a_cons x_v (a_cons x_v a_nil)) ⟨other, own, rfl, hrs other ho, rfl⟩))) (by rw [eqv_row]; simp))))))) (fun h => ?_) (fun h => ?_)
        · refine q_append 8 x_v rfl (by rw [List.length_map]; omega) ?_
          refine q_nil (q_nil ⟨.v (.d (rowI own)), fs ++ [own], ?_, ?_, ?_⟩)
          · rw [List.map_append]
            rfl
          · rw [List.filter_append, ← hf, List.filter_cons, if_pos h]
            rfl
          · rw [List.length_append, List.length_append]
            simp only [List.length_cons, List.length_nil]
            omega
        · refine q_nil ⟨_, fs, rfl, ?_, ?_⟩
          · rw [List.filter_append, ← hf, List.filter_cons, if_neg (by rw [h]; exact Bool.noConfusion)]
            simp
          · rw [List.length_append]
            omega
      · rintro _ c ⟨s3, fs, rfl, hf, hq⟩
        refine q_ret (.is (x_tupR (bi hm) xr_v) ?_) (.inl ⟨_, rfl⟩)
        rw [hf]
        rfl
  | _ :: _ :: _ :: _, hl, _ => exact absurd hl (by simp only [List.length_cons]; omega)
end
end K39
set_option Elab.async false
set_option linter.all false
set_option maxRecDepth 100000
set_option maxHeartbeats 4000000
namespace K39
open PySem PySem.Spec PyProof.Rows L2 Pv
section
variable {P : Program} {w : World} {K : PySem.W.Frag} {mg : Str → Option Value} {base : Heap}
theorem sd_told : FnScope ["call", "error", "found"] ["call"] (defScope s__law_told) := ⟨rfl, rfl, rfl, by decide, rfl, by decide, by decide⟩
theorem fn_told (hm : Md K mg) (k : Nat) : Cl P w K mg base (k + 1) "_law_told" s__law_told ["call"] (toldSp P w K mg base k) := by
  refine .of hm.d__law_told (fun _ _ _ _ _ _ us hl => match us, hl with | [_], _ => rfl) fun f fd F => fnG_of F sd_told (fun vs H Q ⟨_, _, _, _, e, _⟩ => by rw [e]; rfl) ?_
  rintro cdv A outer s H hr vs Q ⟨W, f1, d, rfl, rfl, hc, q⟩
  refine s_try0 ?_
  refine s_ret (m := m0) (i := ()) (EL.E (el_lst (ed_cons e_str (ed_cons (e_clo 0 hc (Nat.le_refl _)) ed_nil)))) True.intro fun v T l _ h => q v T l h
theorem sd_same : FnScope ["one", "other"] ["one", "other"] (defScope s__law_same) := ⟨rfl, rfl, rfl, by decide, rfl, by decide, by decide⟩
theorem fn_same (hm : Md K mg) : Cl P w K mg base 1 "_law_same" s__law_same ["one", "other"] (pureSp K sameR) := by
  refine .of hm.d__law_same (fun _ _ _ _ _ _ us hl => match us, hl with | [_, _], _ => rfl) fun f fd F => fnPure F sd_same (by rintro _ _ ⟨_, rfl, _⟩; rfl) ?_
  rintro cdv A outer s H hr vs W xs y ha ⟨ds, rfl, hn, rfl⟩ D hD _
  obtain ⟨v1, v2, rfl, h1, h2⟩ := ha.inv2
  have hd : (PyData.list ds).depth ≤ 64 := Nat.le_trans hn.sh.2 (by decide)
  have hf := (hn.mono (k' := 64) (by decide) (Nat.le_refl _)).fits
  have hs : SeqAt.shaped (.list ds) = true := hn.sh.ok
  refine s_ret0 (i := ()) (e_and (u := true) (v := true) (E.is (EC.val (c_eqs (e_repr (bi hm) (e_v 0 h1) hn.show_ hn.nd hd hf) (e_repr (bi hm) (e_v 1 h2) hn.show_ hn.nd hd hf))) (by simp)) (fun _ => e_one (E.is (EC.val (c_eqd (e_v 0 h1) (e_v 1 h2) hs hs)) (by rw [eqv_refl _ hn.sh.1])))) (Le.refl W) hD
theorem sd_is : FnScope ["due", "call", "named"] ["due", "call", "named"] (defScope s__law_is) := ⟨rfl, rfl, rfl, by decide, rfl, by decide, by decide⟩
def toldD (d : PD) : PD := .list [.str "told", d]
theorem nz_told {d : PD} (h : Nc d) : Nz 60 1048576 (.list [toldD d, toldD d]) := by
  have h1 : Nz 51 400002 (toldD d) := nz_list (nz_cons (k := 50) (n := 200000) (nz_str (by decide +kernel) (by decide +kernel)) (nz_cons h nz_nil)) (by simp)
  exact (nz_list (nz_cons h1 (nz_cons h1 nz_nil)) (N := 800006) (by simp)).mono (by decide) (by decide)
theorem fn_is (hm : Md K mg) (k : Nat) : Cl P w K mg base (k + 2) "_law_is" s__law_is ["due", "call", "named"] (isSp P w K mg base k) := by
  have C1 := fn_told (P := P) (w := w) (base := base) hm k
  have C2 := (fn_same (P := P) (w := w) (base := base) hm).mono (k' := k + 1) (by omega)
  refine .of hm.d__law_is (fun _ _ _ _ _ _ us hl => match us, hl with | [_, _, _], _ => rfl) fun f fd F => fnG_of F sd_is (fun vs H Q ⟨_, _, _, _, _, _, e, _⟩ => by rw [e]; rfl) ?_
  rintro cdv A outer s H hr vs Q ⟨W, v, f1, f2, d, rfl, rfl, hd, hc1, hc2, hn, q⟩
  refine s_ret (m := m0) (i := ()) (x := .d (.bool true)) (e_callD C2 (ea_cons (EL.E (el_lst (ed_cons (d := toldD d) (eg_callS C1 (eg_cons (e_vat 1) eg_nil) ?_ (Nat.le_refl _)) (ed_cons (d := toldD d) (eg_callS C1 (eg_cons (e_vat 2) eg_nil) ?_ (Nat.le_refl _)) ed_nil)))) (ea_cons (EL.E (el_mulL (el_lst (ed_cons (EL.E (el_lst (ed_cons e_str (ed_cons (e_v 0 hd) ed_nil)))) ed_nil)) e_int (by decide) (by simp))) ea_nil)) ⟨[toldD d, toldD d], rfl, nz_told hn, rfl⟩ (Nat.le_refl _)) True.intro (fun v T l _ h => q v T l h)
  · rintro U vs T l1 l2 _ ⟨_, _, T1, rfl, _, rfl, _, rfl⟩ Q' z
    exact ⟨T, f1, d, rfl, rfl, hc1.le (l1.trans l2), z⟩
  · rintro U vs T l1 l2 _ ⟨_, _, T1, rfl, _, rfl, _, rfl⟩ Q' z
    exact ⟨T, f2, d, rfl, rfl, hc2.le (l1.trans l2), z⟩
theorem sd_own_bag : FnScope ["script", "cells", "mixed", "cell"] ["script"] (defScope s__law_own_bag) := ⟨rfl, rfl, rfl, by decide, rfl, by decide, by decide⟩
def cellI (c : Int) : Int := (if c < 0 then -c else c) % 10 ^ (64 : Int).toNat
def ownBagSp (K : PySem.W.Frag) : Spg := fun vs H Q => ∃ (W : Wd) (v : V) (ns : List Int), W.H = H ∧ vs = [v] ∧ Is K W.F v (.d (.list (ns.map .int))) ∧
  ∀ B C T b, Le M0 W T → W.H B = none → W.H C = none → T.F B = none → T.F C = none → T.H B = some (.lst [.ref C, .int b.hi, .int b.mix]) → T.H C = some (.lst (b.cells.map .int)) → B ≠ C → BagOk b → Q (.ref B) T.H
theorem cellI_ok (c : Int) : 0 ≤ cellI c ∧ cellI c < 10 ^ 64 := ⟨Int.emod_nonneg _ (by decide), Int.emod_lt_of_pos _ (by decide)⟩
theorem fn_own_bag (hm : Md K mg) : Cl P w K mg base 1 "_law_own_bag" s__law_own_bag ["script"] (ownBagSp K) := by
  refine .of hm.d__law_own_bag (fun _ _ _ _ _ _ us hl => match us, hl with | [_], _ => rfl) fun f fd F => fnG_of F sd_own_bag (fun vs H Q ⟨_, _, _, _, e, _⟩ => by rw [e]; rfl) ?_
  rintro cdv A outer s H hr vs Q ⟨W, v, ns, rfl, rfl, h1, q⟩
  have hpos : (0 : Int) < 10 ^ (64 : Int).toNat := by decide
  refine s_setLcF (m := m0) (i := ()) 1 [("cell", 3)] (xs := ns.take 63) (enc := .int) (fun _ => true) (fun c => .int (cellI c)) (ei_lstE (E.is (EL.E (el_slice (e_v 0 h1) eo_none (eo_some e_int))) (by rw [show (63 : Int) = ((63 : Nat) : Int) from rfl, cutTo]))) (by simp; omega) ?_ True.intro ?_
  · rintro T0 l0 c hc x T hf r hx
    exact ⟨_, fun Q hQ => g_n 3 hQ, rfl, ets_nil, fun _ => e_mod (e_abs (bi hm) (e_intI (bi hm) (e_v 3 hx))) (e_pow e_int e_int ⟨by decide, by decide, by decide⟩) hpos⟩
  intro qc T1 l1 _ hcs
  have ef : (ns.take 63).filter (fun _ => true) = ns.take 63 := List.filter_eq_self.mpr fun _ _ => rfl
  rw [ef] at hcs
  have hcs' : Is K T1.F (.ref qc) (.d (.list (((ns.take 63).map cellI).map .int))) := by
    rw [List.map_map]
    exact hcs
  generalize hcsv : (ns.take 63).map cellI = cs at hcs'
  have hlen : cs.length ≤ 63 := by
    rw [← hcsv]
    simp
    omega
  have hcok : ∀ c ∈ cs, 0 ≤ c ∧ c < 10 ^ 64 := by
    intro c hc
    rw [← hcsv] at hc
    obtain ⟨a, _, rfl⟩ := List.mem_map.mp hc
    exact cellI_ok a
  refine s_st (m := m0) (i := ()) 2 (e_add e_int (e_lenL (bi hm) (e_v 1 hcs'))) True.intro ?_
  intro u2 T2 l2 _ hu2
  have e := Is.int hu2
  subst e
  refine s_forE (m := m0) (i := ()) (xs := cs) (enc := .int) (fun T0 done σ' T' _ => ∃ (mx : Int) (a : Option V), σ' = [some v, some (.ref qc), some (.int mx), a] ∧ Le M0 W T' ∧ 0 ≤ mx ∧ mx < 2147483647) (ei_lstE (e_v 1 (hcs'.le l2))) True.intro (fun T0 l0 _ => ⟨_, none, rfl, (l1.trans l2).trans l0, by simp; omega, by simp; omega⟩) ?_ ?_
  · rintro T0 l0 done c todo hx _ T3 _ f3 _ ⟨mx, a, rfl, l3, m1, m2⟩ vx T4 l4 _ hvx
    refine g_n 3 ?_
    have hmx : Is K T4.F (V.int mx) (.d (.int mx)) := Dp.int _
    refine s_st (m := m0) (i := ()) 2 (e_mod (e_intI (bi hm) (e_add (e_add (e_mul (e_v 2 hmx) e_int (.inr ⟨by decide, by decide⟩)) (e_mod (e_intI (bi hm) (e_v 3 hvx)) e_int (by decide))) e_int)) e_int (by decide)) True.intro ?_
    intro u5 T5 l5 _ hu5
    have e := Is.int hu5
    subst e
    exact s_nil ⟨T5, (), rfl, f3.trans (l4.fl.trans l5.fl), True.intro, _, _, rfl, (l3.trans l4).trans l5, Int.emod_nonneg _ (by decide), Int.emod_lt_of_pos _ (by decide)⟩
  · rintro T0 l0 _ T3 _ f3 _ ⟨mx, a, rfl, l3, m1, m2⟩
    have hmx : Is K T3.F (V.int mx) (.d (.int mx)) := Dp.int _
    have hcs3 : Is K T3.F (.ref qc) (.d (.list (cs.map .int))) := hcs'.fl (l2.fl.trans (l0.fl.trans f3))
    refine s_retG (m := m0) (i := ()) (eg_lst (eg_cons (el_listRev (bi hm) (bi hm) (EL.rl (el_listL (bi hm) (e_v 1 hcs3)))) (eg_cons e_int (eg_cons (e_v 2 hmx) eg_nil))) (hlen := ?hlen)) True.intro ?fin
    case hlen =>
      rintro U vs T ⟨_, _, _, rfl, _, _, _, _, _, _, rfl, _, _, _, _, _, _, rfl, _, _, _, rfl⟩
      rfl
    rintro _ T9 l9 _ ⟨B, vs, T8, rfl, l8, ⟨_, _, Ta, rfl, la, ⟨C, us, rfl, c1, c2, c3, c4⟩, lb, _, _, Tb, rfl, lc, hz, ld, _, _, Tc, rfl, le, hmx9, lf, rfl⟩, hB, eF, eH⟩
    have hz := Is.int hz
    have hmx9 := Is.int hmx9
    subst hz hmx9
    have e4 : us = cs.reverse.map V.int := by
      rw [← List.map_reverse] at c4
      exact c4.ints
    have hC8 : T8.H C = some (.lst (cs.reverse.map V.int)) := by
      rw [← e4]
      exact lb.h C _ (fun z => z) c3
    have hBC : B ≠ C := fun z => by
      rw [z, hC8] at hB
      cases hB
    refine q B C T9 ⟨cs.reverse, 0, mx⟩ (l3.trans l9) ((l3.trans l8).back hB) (l3.back c1) ?_ ?_ ?_ ?_ hBC ⟨by rw [List.length_reverse]; exact hlen, fun c hc => hcok c (List.mem_reverse.mp hc), ⟨Int.le_refl 0, (by decide : (0 : Int) < 10 ^ 64)⟩, m1, m2⟩
    · rw [eF]
      exact T8.fnone hB
    · rw [eF]
      exact lb.n C c2 (by rw [c3]; exact fun z => nomatch z)
    · rw [eH]
      exact upd_same
    · rw [eH, upd_ne (Ne.symm hBC)]
      exact hC8
theorem sd_draw : FnScope ["bag", "below", "turn", "cell", "found"] ["bag", "below"] (defScope s__law_draw) := ⟨rfl, rfl, rfl, by decide, rfl, by decide, by decide⟩
theorem fn_draw (hm : Md K mg) : Cl P w K mg base 1 "_law_draw" s__law_draw ["bag", "below"] drawSp := by
  refine .of hm.d__law_draw (fun _ _ _ _ _ _ us hl => match us, hl with | [_, _], _ => rfl) fun f fd F => fnG_of F sd_draw (fun vs H Q ⟨_, _, _, _, _, _, e, _⟩ => by rw [e]; rfl) ?_
  rintro cdv A outer s H hr vs Q ⟨W, B, C, b, below, rfl, rfl, r, hb, hb2, q⟩
  have after : ∀ (T : Wd) (c : Bag) (a1 a2 : Option V), Le (lawM B C []).M W T → BagR B C [] c T → c = popB 64 b → wSs (dFam P w K mg base ["bag", "below", "turn", "cell", "found"] sd_draw.nd "_law_draw" (defScope s__law_draw) f cdv A outer s W.H 0 hr) ((defBody s__law_draw).drop 1) { nx := fun _ H' => Q .non H', rt := Q } [some (.ref B), some (.int below), a1, a2, none] T.H := by
    intro T c a1 a2 l rc hc
    have hbl : Is K T.F (V.int below) (.d (.int below)) := Dp.int _
    by_cases hh : 0 < c.hi
    · have ed : dr b below = (c.hi % below, ⟨c.cells, c.hi / below, c.mix⟩) := by
        unfold dr
        rw [← hc]
        exact if_pos hh
      refine s_when (m := lawM B C []) (i := c) (u := true) (EC.tst (EC.eq (c_gt (e_bagI 0) e_int) (decide_eq_true hh))) rc (fun _ T1 l1 r1 => ?_) (fun z => nomatch z)
      refine s_st (m := lawM B C []) (i := c) 4 (e_mod (e_intI (bi hm) (e_bagI 0)) (e_v 1 (hbl.le l1)) hb) r1 ?_
      intro u2 T2 l2 r2 hu2
      have e := Is.int hu2
      subst e
      refine s_asg (m := lawM B C []) (i := c) (e_fdivW (e_bagI 0) (e_v 1 (hbl.le (l1.trans l2))) ⟨hb, hb2⟩) r2 ?_
      intro u3 T3 l3 r3 hu3
      have e := Is.int hu3
      subst e
      have hok := (dr_ok r.ok hb).1
      rw [ed] at hok
      refine g_bag (C := C) (T := []) (b := c) 0 ⟨c.cells, c.hi / below, c.mix⟩ r3 (Le.refl T3) (.inl ⟨rfl, rfl⟩) hok ?_
      intro T4 l4 r4
      have hf : Is K T4.F (V.int (c.hi % below)) (.d (.int (c.hi % below))) := Dp.int _
      refine s_ret (m := lawM B C []) (i := ⟨c.cells, c.hi / below, c.mix⟩) (e_v 4 hf) r4 ?_
      intro v T5 l5 r5 hv
      have e := Is.int hv
      subst e
      rw [ed] at q
      exact q T5 ((((l.trans l1).trans l2).trans l3).trans (l4.trans l5)) r5
    · have ed : dr b below = ((((c.mix * 48271 + 11) % 2147483647) * ((c.mix * 48271 + 11) % 2147483647)) % 2147483629 / 7 % below, ⟨c.cells, c.hi, (c.mix * 48271 + 11) % 2147483647⟩) := by
        unfold dr
        rw [← hc]
        exact if_neg hh
      have hok := (dr_ok r.ok hb).1
      rw [ed] at hok
      have hmx : (c.mix * 48271 + 11) % 2147483647 < 2147483647 ∧ 0 ≤ (c.mix * 48271 + 11) % 2147483647 := ⟨Int.emod_lt_of_pos _ (by decide), Int.emod_nonneg _ (by decide)⟩
      refine s_when (m := lawM B C []) (i := c) (u := false) (EC.tst (EC.eq (c_gt (e_bagI 0) e_int) (decide_eq_false hh))) rc (fun z => nomatch z) (fun _ T1 l1 r1 => ?_)
      refine s_asg (m := lawM B C []) (i := c) (e_mod (e_intI (bi hm) (e_add (e_mul (e_bagM 0) e_int (.inr ⟨by decide, by decide⟩)) e_int)) e_int (by decide)) r1 ?_
      intro u3 T3 l3 r3 hu3
      have e := Is.int hu3
      subst e
      refine g_bag (C := C) (T := []) (b := c) 0 ⟨c.cells, c.hi, (c.mix * 48271 + 11) % 2147483647⟩ r3 (Le.refl T3) (.inr ⟨rfl, rfl⟩) hok ?_
      intro T4 l4 r4
      have hbl4 := hbl.le ((l1.trans l3).trans l4)
      refine s_ret (m := lawM B C []) (i := ⟨c.cells, c.hi, (c.mix * 48271 + 11) % 2147483647⟩) (e_mod (e_fdiv (e_mod (e_intI (bi hm) (e_mul (e_bagM 0) (e_bagM 0) (.inl ⟨by dsimp only; omega, by dsimp only; omega⟩))) e_int (by decide)) e_int ⟨by decide, by decide⟩) (e_v 1 hbl4) hb) r4 ?_
      intro v T5 l5 r5 hv
      have e := Is.int hv
      subst e
      rw [ed] at q
      exact q T5 ((l.trans l1).trans (l3.trans (l4.trans l5))) r5
  refine s_forE (m := lawM B C []) (i := b) (j := b) (xs := rgI 0 64) (enc := .int) (fun T0 done σ' T' c => ∃ (a1 a2 : Option V), σ' = [some (.ref B), some (.int below), a1, a2, none] ∧ Le (lawM B C []).M W T' ∧ popB (64 - done.length) c = popB 64 b) (ei_rg1E (bi hm) e_int ⟨by decide, by decide⟩) r (fun T0 l0 r0 => ⟨_, _, rfl, l0, rfl⟩) ?_ ?_
  · rintro T0 l0 done a todo hx _ T1 c f1 r1 ⟨a1, a2, rfl, l1, hp⟩ vx T2 l2 r2 hvx
    refine g_n 2 ?_
    have hdl : done.length < 64 := by
      have h64 : (rgI 0 64).length = 64 := rgI_len
      rw [hx] at h64
      simp at h64
      omega
    obtain ⟨n, hn⟩ : ∃ n, 64 - done.length = n + 1 := ⟨63 - done.length, by omega⟩
    rw [hn] at hp
    have l12 := l1.trans l2.of0
    show wSs _ _ _ [some (.ref B), some (.int below), some vx, a2, none] T2.H
    refine s_when (m := lawM B C []) (i := c) (et_w (ew_or (EC.tst (c_gt (e_bagI 0) e_int)) (fun _ => ew_or1 (EC.tst (c_bagE (j := c) (eg_bagC 0)))))) r2 (fun hu T3 l3 r3 => ?_) (fun hu T3 l3 r3 => ?_)
    · have e1 : popB (n + 1) c = c := if_pos hu
      exact s_break (after T3 c _ _ (l12.trans l3) r3 (e1.symm.trans hp))
    · have hne : c.cells ≠ [] := fun z => by
        rw [z] at hu
        simp at hu
      have e2 : popB (n + 1) c = popB n ⟨c.cells.dropLast, (if 1000000000 < c.cells.getLastD 0 then c.cells.getLastD 0 else 0), c.mix⟩ := if_neg fun z => Bool.noConfusion (Eq.trans (Eq.symm z) hu)
      refine s_stG (m := lawM B C []) (i := c) 3 (eg_bagPop (eg_bagC 0) hne) r3 ?_
      rintro _ T4 l4 r4 rfl
      have hcell : Is K T4.F (V.int (c.cells.getLastD 0)) (.d (.int (c.cells.getLastD 0))) := Dp.int _
      refine s_asg (m := lawM B C []) (i := ⟨c.cells.dropLast, c.hi, c.mix⟩) (P := fun _ v _ => v = .int (if 1000000000 < c.cells.getLastD 0 then c.cells.getLastD 0 else 0)) ?_ r4 ?_ (j := ⟨c.cells.dropLast, c.hi, c.mix⟩)
      · refine EG.imp (e_if (x := .d (.int (if 1000000000 < c.cells.getLastD 0 then c.cells.getLastD 0 else 0))) (EC.tst (c_gt (e_v 3 hcell) (e_pow e_int e_int ⟨by decide, by decide, by decide⟩))) (fun hz => E.is (e_v 3 hcell) ?_) (fun hz => E.is e_int ?_)) fun _ _ _ _ _ _ _ h => Is.int h
        · have : (1000000000 : Int) < c.cells.getLastD 0 := of_decide_eq_true hz
          rw [if_pos this]
        · have : ¬ (1000000000 : Int) < c.cells.getLastD 0 := of_decide_eq_false hz
          rw [if_neg this]
      · rintro _ T5 l5 r5 rfl
        have hl := r3.ok.cells _ (last_mem hne)
        refine g_bag (C := C) (T := []) (b := ⟨c.cells.dropLast, c.hi, c.mix⟩) 0 ⟨c.cells.dropLast, (if 1000000000 < c.cells.getLastD 0 then c.cells.getLastD 0 else 0), c.mix⟩ r5 (Le.refl T5) (.inl ⟨rfl, rfl⟩) ⟨r5.ok.len, r5.ok.cells, ?_, r5.ok.mix⟩ ?_
        · dsimp only
          split
          · exact hl
          · exact ⟨by decide, by decide⟩
        · intro T6 l6 r6
          have l36 := l3.trans (l4.trans (l5.trans l6))
          refine s_nil ⟨T6, _, rfl, f1.trans (l2.fl.trans l36.fl), r6, _, _, rfl, l12.trans l36, ?_⟩
          rw [List.length_append, List.length_singleton, show 64 - (done.length + 1) = n by omega]
          exact e2.symm.trans hp
  · rintro T0 l0 _ T1 c f1 r1 ⟨a1, a2, rfl, l1, hp⟩
    rw [rgI_len] at hp
    exact after T1 c _ _ l1 r1 hp
end
end K39
set_option Elab.async false
set_option linter.all false
set_option maxRecDepth 100000
set_option maxHeartbeats 4000000
namespace Xv
open PySem PySem.Spec PyProof.Rows L2 Pv
/-! comprehensions over a list that may still be changed later; if-expressions whose branches draw -/
section
variable {m : Mode} {Y : Fam} {σ : L2.St} {W : Wd} {i j k : m.ι} {tg iter : Expr}
def ITk (m : Mode) (J : It) (n : Nat) (it : Nat → V → Wd → Prop) (T0 : Wd) : Prop :=
  (∀ T, Le m.M T0 T → J.stop n T.H) ∧ ∀ k, k < n → ∀ T, Le m.M T0 T → J.go k T.H ∧ ∀ x H', J.yld k T.H x H' → ∃ T', T'.H = H' ∧ Le M0 T T' ∧ it k x T'
def EIk (m : Mode) (Y : Fam) (σ : L2.St) (W : Wd) (i : m.ι) (tg iter : Expr) (n : Nat) (it : Nat → V → Wd → Prop) (j : m.ι) : Prop :=
  ∀ U, Le m.M W U → m.R i U → ∀ Z : It → Hp → Prop, (∀ J T, Le m.M U T → m.R j T → ITk m J n it T → Z J T.H) → wI Y tg iter σ U.H Z
theorem eik_own {α : Type} {e : Expr} {xs : List α} {enc : α → PD} (h : ERl m Y σ W i e (xs.map enc) j) : EIk m Y σ W i tg e xs.length (itE Y.K xs enc) j := fun U h1 r Z q =>
  ⟨iList Y.K (wE Y e), fun a => by
    have h := pi_list (tg := tg) (wE_ok (e := e) a)
    rw [Y.hK a] at h
    exact h, h U h1 r _ fun v T l1 r1 p1 => by
    obtain ⟨a, vs, e1, e2, e3⟩ := p1
    subst e1
    have len : vs.length = xs.length := by rw [e3.len, List.length_map]
    refine ⟨a, rfl, ⟨vs, e2 T (Le.refl T)⟩, q _ T l1 r1 ⟨fun T' hf => ⟨vs, e2 T' hf, by rw [len]; exact Nat.le_refl _⟩, fun k hk T' hf => ?_⟩⟩
    have sq : SqL Y.K T'.H a vs := e2 T' hf
    have hk' : k < vs.length := by rw [len]; exact hk
    refine ⟨⟨vs, vs[k], sq, by simp [hk']⟩, fun x H' ⟨hH, hx⟩ => ⟨T', hH.symm, Le.refl T', fun z hz => ?_⟩⟩
    obtain ⟨d, h1, h2⟩ := e3.get (hx vs sq)
    rw [List.getElem?_map, hz] at h1
    cases h1
    exact h2.mono hf.f⟩
theorem lcS_runK {elt : Expr} {ifs : List Expr} {scope : Scope} {vs : List Nat} {it : Nat → V → Wd → Prop} (N : Nat) (J : Nat → m.ι) (pr : Nat → Bool) (g : Nat → PD) (hi : EIk m Y σ W i tg iter N it (J 0)) (hl : N ≤ 100000)
    (ht : ∀ k, k < N → ∀ x T, Le m.M W T → m.R (J k) T → it k x T → TurnS m (Y.blk scope) tg elt ifs vs σ x T (J k) (J (k + 1)) (pr k) (g k)) :
    ∀ U, Le m.M W U → m.R i U → ∀ Q : VK, (∀ v T, Le m.M U T → m.R (J N) T → (∃ p us, v = V.ref p ∧ U.H p = none ∧ T.F p = none ∧ T.H p = some (.lst us) ∧ DpAll Y.K T.F us (((List.range N).filter pr).map g)) → Q v T.H) →
      tLc (wI Y tg iter) (wG (Y.blk scope) tg) (wTs (Y.blk scope) ifs) (wE (Y.blk scope) elt) vs σ U.H Q := by
  intro U h1 r Q q
  refine hi U h1 r _ fun JJ T0 l0 r0 ok => ?_
  intro C hC
  have l00 : Le M0 T0 (T0.own C (.lst []) hC) := Le.own hC
  refine ⟨fun n q H => q = N - n ∧ n ≤ N ∧ ∃ T : Wd, T.H = H ∧ Le m.M T0 T ∧ m.R (J n) T ∧ T.F C = none ∧ ∃ us, T.H C = some (.lst us) ∧ DpAll Y.K T.F us (((List.range n).filter pr).map g), ⟨N, by simp, Nat.zero_le _, T0.own C (.lst []) hC, rfl, Le.own hC, m.le0 r0 l00, T0.fnone hC, [], upd_same, by simpa using DpAll.nil⟩, ?_⟩
  rintro n q' H ⟨rfl, hn, T, rfl, l1, r1, f1, us, hu, du⟩
  by_cases hlt : n < N
  · refine .inr ⟨(ok.2 n hlt T l1).1, fun H' => ∃ T' : Wd, T'.H = H' ∧ Le m.M T0 T' ∧ m.R (J (n + 1)) T' ∧ T'.F C = none ∧ ∃ us, T'.H C = some (.lst us) ∧ DpAll Y.K T'.F us (((List.range (n + 1)).filter pr).map g), fun H' hH => ⟨N - (n + 1), by omega, rfl, hlt, hH⟩, fun x H' hy => ?_⟩
    obtain ⟨T1, rfl, l2, hit⟩ := (ok.2 n hlt T l1).2 x H' hy
    have hCm : ¬ m.M C := fun z => (m.al (J 0) T0 r0 C z).1 hC
    have c1 : T1.H C = some (.lst us) := l2.h C _ (fun z => z) hu
    have f2 : T1.F C = none := l2.n C f1 (by rw [hu]; exact fun z => nomatch z)
    have r2 : m.R (J n) T1 := m.le0 r1 l2
    obtain ⟨σ2, j2, tg1, tg2, tg3, tg4, tg5⟩ := ht n hlt x T1 (((h1.trans l0).trans l1).trans l2.of0) r2 hit
    refine tg1 _ ⟨tg2, ?_⟩
    refine tg3 T1 (Le.refl T1) r2 _ fun T2 l3 r3 => ?_
    have c2 : T2.H C = some (.lst us) := l3.h C _ hCm c1
    have f3 : T2.F C = none := l3.n C f2 (by rw [c1]; exact fun z => nomatch z)
    have l4 : Le m.M T0 T2 := (l1.trans l2.of0).trans l3
    cases hb : pr n with
    | false =>
      show ∃ T' : Wd, T'.H = T2.H ∧ Le m.M T0 T' ∧ m.R (J (n + 1)) T' ∧ T'.F C = none ∧ ∃ us, T'.H C = some (.lst us) ∧ DpAll Y.K T'.F us (((List.range (n + 1)).filter pr).map g)
      refine ⟨T2, rfl, l4, (tg5 hb) ▸ r3, f3, us, c2, ?_⟩
      rw [List.range_succ, List.filter_append, List.filter_cons, hb]
      simpa using (du.mono l2.f).mono l3.f
    | true =>
      show wE (Y.blk scope) elt σ2 T2.H fun y H4 => ∃ acc, H4 C = some (.lst acc) ∧ acc.length < sizeLine ∧ ∃ T' : Wd, T'.H = upd H4 C (.lst (acc ++ [y])) ∧ Le m.M T0 T' ∧ m.R (J (n + 1)) T' ∧ T'.F C = none ∧ ∃ us, T'.H C = some (.lst us) ∧ DpAll Y.K T'.F us (((List.range (n + 1)).filter pr).map g)
      refine tg4 hb T2 l3 r3 _ fun y T3 l5 r4 hy => ?_
      have c3 : T3.H C = some (.lst us) := l5.h C _ hCm c2
      have f4 : T3.F C = none := l5.n C f3 (by rw [c2]; exact fun z => nomatch z)
      have dl : us.length ≤ n := by
        rw [du.len, List.length_map]
        exact Nat.le_trans (List.length_filter_le _ _) (by rw [List.length_range]; exact Nat.le_refl _)
      refine ⟨us, c3, Evl.sz_lt (by omega), T3.put C _ f4, rfl, ?_, m.pt (J (n + 1)) T3 C _ _ f4 r4 hCm c3 rfl, f4, us ++ [y], upd_same, ?_⟩
      · have l6 : Le m.M T0 T3 := l4.trans l5
        exact ⟨l6.f, fun a o hm e => by
          show upd T3.H C _ a = some o
          rw [upd_ne (ne_of_none e hC)]
          exact l6.h a o hm e, l6.n, fun a ka => upd_some_ne (l6.k a ka)⟩
      · rw [List.range_succ, List.filter_append, List.filter_cons, hb, List.map_append]
        exact (((du.mono l2.f).mono l3.f).mono l5.f).app (by simpa using DpAll.one (show Dp Y.K T3.F y (g n) from hy))
  · have e : n = N := by omega
    subst e
    exact .inl ⟨ok.1 T l1, q (.ref C) T (l0.trans l1) r1 ⟨C, us, rfl, l0.back hC, f1, hu, du⟩⟩

theorem xl_lcO {Γ : Ctx} {elt : Expr} {scope : Scope} {pos : Pos} {α : Type} (own : List (Str × Nat)) {xs : List α} {enc : α → PD} (g : α → PD) (hi : XR m Y Γ i iter (xs.map enc) j) (hl : xs.length ≤ 100000)
    (ht : ∀ a ∈ xs, XTurn m Y Γ scope own tg elt [] (.d (enc a)) true (g a) j j) (ok : blkB Y.N Y.sc scope own = true := by rfl) (hs : Fd' Y iter := by intro _ _; rfl) :
    XL m Y Γ i (.ListComp elt [⟨tg, iter, [], 0⟩] scope pos) (xs.map g) j := fun W0 σ W A U h1 r Q q => by
  refine ⟨tLc (wI Y tg iter) (wG (Y.blk scope) tg) (wTs (Y.blk scope) []) (wE (Y.blk scope) elt) (own.map (·.2)), fun a => pe_lc (Y.hc a) (by rw [Y.hN]; exact Y.nd) (wI_ok a) (by rw [Y.hN, Y.hsc]; exact blk_of ok) (fun s H C cl fp => wG_ok (Y := Y.blk scope) (a, s, H, C, cl, fp)) (fun s H C cl fp => wTs_ok (Y := Y.blk scope) (a, s, H, C, cl, fp)) (fun s H C cl fp => wE_ok (Y := Y.blk scope) (a, s, H, C, cl, fp)) (hs a), ?_⟩
  have e : ((List.range xs.length).filter fun _ => true).map (fun k => match xs[k]? with | some a => g a | none => .none) = xs.map g := by
    rw [range_filter_map xs (fun _ => true) g _ _ (fun k a ha => rfl) (fun k a ha => by rw [ha])]
    congr 1
    exact List.filter_eq_self.mpr fun _ _ => rfl
  refine lcS_runK (it := itE Y.K xs enc) xs.length (fun _ => j) (fun _ => true) (fun k => match xs[k]? with | some a => g a | none => .none) (eik_own (hi W0 σ W A)) hl ?_ U h1 r Q ?_
  · intro k hk x T l r hx
    have ha : xs[k]? = some xs[k] := by simp [hk]
    obtain ⟨Γ2, ix, j2, g1, g2, g3, g4, g5⟩ := ht _ (List.getElem_mem hk)
    have A1 := (A.go l).wipe (own.map (·.2))
    obtain ⟨σ2, A2, len, ag, q⟩ := g1 W0 _ T x A1 (show Dp Y.K T.F x (enc xs[k]) from hx _ ha)
    refine ⟨σ2, j2, q, wipe_eq (fun n hn => ag n fun z => hn (g2 n z)) (len.trans (L2.wipe_length σ _)), g3 W0 σ2 T A2, fun hb => ?_, g5⟩
    have e2 : (match xs[k]? with | some a => g a | none => PyData.none) = g xs[k] := by rw [ha]
    rw [e2]
    exact g4 hb W0 σ2 T A2
  · rw [e]
    exact q
end
section
variable {m : Mode} {Y : Fam} {Γ : Ctx} {i j k k' : m.ι} {c a b e : Expr} {pos : Pos} {x : Sv} {u : Bool}
theorem X.to (h : X m Y Γ i e x j) (q : j = k) : X m Y Γ i e x k := q ▸ h
theorem x_ifK (h : XT m Y Γ i c u j) (ha : u = true → X m Y Γ j a x k) (hb : u = false → X m Y Γ j b x k) : X m Y Γ i (.IfExp c a b pos) x k := fun _ _ _ A U h1 r Q q =>
  ⟨_, fun a => pe_ifExp (wT_ok a) (wE_ok a) (wE_ok a), h _ _ _ A U h1 r _ fun T l1 r1 => by
    cases u with
    | true => exact ha rfl _ _ _ A T (h1.trans l1) r1 _ fun v2 T2 l2 r2 p2 => q v2 T2 (l1.trans l2) r2 p2
    | false => exact hb rfl _ _ _ A T (h1.trans l1) r1 _ fun v2 T2 l2 r2 p2 => q v2 T2 (l1.trans l2) r2 p2⟩
end
end Xv
set_option Elab.async false
set_option linter.all false
set_option maxRecDepth 100000
set_option maxHeartbeats 4000000
/-! plain specs of the law's own defs -/
namespace Ll
open PySem PySem.Spec PyProof.Rows L2 Pv Xv
def wayF (b : Bag) : Pr × Bag := if 0 < (dr b 5).1 + (dr (dr b 5).2 5).1 then (((dr b 5).1, (dr (dr b 5).2 5).1), (dr (dr b 5).2 5).2) else ((1, (dr (dr (dr b 5).2 5).2 3).1), (dr (dr (dr b 5).2 5).2 3).2)
theorem wayF_ok {b : Bag} (h : BagOk b) : BagOk (wayF b).2 ∧ 0 ≤ (wayF b).1.1 ∧ (wayF b).1.1 ≤ 4 ∧ 0 ≤ (wayF b).1.2 ∧ (wayF b).1.2 ≤ 4 ∧ 0 < (wayF b).1.1 + (wayF b).1.2 := by
  obtain ⟨o1, a1, a2⟩ := dr_ok (below := 5) h (by decide)
  obtain ⟨o2, b1, b2⟩ := dr_ok (below := 5) o1 (by decide)
  obtain ⟨o3, c1, c2⟩ := dr_ok (below := 3) o2 (by decide)
  unfold wayF
  split
  · exact ⟨o2, a1, by simp only; omega, b1, by simp only; omega, by simp only; omega⟩
  · exact ⟨o3, by simp only; omega, by simp only; omega, c1, by simp only; omega, by simp only; omega⟩
def ltP (u v : Pr) : Prop := u.1 < v.1 ∨ (u.1 = v.1 ∧ u.2 < v.2)
instance (u v : Pr) : Decidable (ltP u v) := by unfold ltP; infer_instance
def sortW (u v : Pr) : List Pr := if u = v then [u] else if ltP u v then [u, v] else [v, u]
def mulP (k : Int) (u : Pr) : Pr := (u.1 * k, u.2 * k)
def lotF (b : Bag) : Lot × Bag :=
  let d1 := dr b 7
  let d2 := dr d1.2 7
  let d3 := dr d2.2 4
  let w1 := wayF d3.2
  let w2 := wayF w1.2
  let d4 := dr w2.2 2
  if d3.1 = 0 then (((d1.1, d2.1), []), d3.2) else if d3.1 = 1 then (((d1.1, d2.1), [w1.1]), w1.2) else
  if d3.1 = 2 then (((d1.1, d2.1), sortW w1.1 (mulP (if d4.1 = 0 then 2 else 3) w1.1)), d4.2) else (((d1.1, d2.1), sortW w1.1 w2.1), w2.2)
structure LawLot (l : Lot) : Prop where
  b : 0 ≤ l.1.1 ∧ l.1.1 ≤ 6 ∧ 0 ≤ l.1.2 ∧ l.1.2 ≤ 6
  n : l.2.length ≤ 2
  w : ∀ v ∈ l.2, 0 ≤ v.1 ∧ v.1 ≤ 12 ∧ 0 ≤ v.2 ∧ v.2 ≤ 12 ∧ 0 < v.1 + v.2
  s : ∀ u v, l.2 = [u, v] → ltP u v
theorem LawLot.ok {l : Lot} (h : LawLot l) : LOk l := ⟨by have := h.b; omega, h.n, fun v hv => by have := h.w v hv; unfold WOk; omega⟩
theorem sortW_mem {u v p : Pr} : p ∈ sortW u v ↔ p ∈ [u, v] := by
  unfold sortW
  split
  · rename_i h
    subst h
    simp
  · split
    · exact Iff.rfl
    · simp [or_comm]
theorem sortW_lot {u v : Pr} : (sortW u v).length ≤ 2 ∧ (∀ a b, sortW u v = [a, b] → ltP a b) ∧ (sortW u v).Nodup := by
  unfold sortW
  split
  · exact ⟨by simp, (fun a b h => by simp at h), by simp⟩
  · rename_i hne
    split
    · rename_i h
      exact ⟨by simp, (fun a b e => by simp at e; obtain ⟨rfl, rfl⟩ := e; exact h), by simp [hne]⟩
    · rename_i h
      refine ⟨by simp, (fun a b e => ?_), by simp; exact fun e => hne e.symm⟩
      simp at e
      obtain ⟨rfl, rfl⟩ := e
      unfold ltP at h ⊢
      by_cases h1 : v.1 = u.1
      · have : v.2 ≠ u.2 := fun h2 => hne (Prod.ext h1.symm h2.symm)
        omega
      · omega
theorem lotF_ok {b : Bag} (h : BagOk b) : BagOk (lotF b).2 ∧ LawLot (lotF b).1 := by
  obtain ⟨o1, a1, a2⟩ := dr_ok (below := 7) h (by decide)
  obtain ⟨o2, b1, b2⟩ := dr_ok (below := 7) o1 (by decide)
  obtain ⟨o3, c1, c2⟩ := dr_ok (below := 4) o2 (by decide)
  obtain ⟨o4, w1⟩ := wayF_ok o3
  obtain ⟨o5, w2⟩ := wayF_ok o4
  obtain ⟨o6, d1, d2⟩ := dr_ok (below := 2) o5 (by decide)
  simp only [lotF]
  split
  · exact ⟨o3, ⟨by simp only; omega, by simp, (fun v hv => by simp at hv), (fun u v e => by simp at e)⟩⟩
  · split
    · exact ⟨o4, ⟨by simp only; omega, by simp, (fun v hv => by simp only [List.mem_singleton] at hv; rw [hv]; omega), (fun u v e => by simp at e)⟩⟩
    · split
      · refine ⟨o6, ⟨by simp only; omega, sortW_lot.1, (fun v hv => ?_), fun u v e => sortW_lot.2.1 u v e⟩⟩
        have hv' := sortW_mem.mp hv
        simp only [List.mem_cons, List.not_mem_nil, or_false] at hv'
        rcases hv' with rfl | rfl
        · omega
        · unfold mulP
          split <;> simp only <;> omega
      · refine ⟨o5, ⟨by simp only; omega, sortW_lot.1, (fun v hv => ?_), fun u v e => sortW_lot.2.1 u v e⟩⟩
        have hv' := sortW_mem.mp hv
        simp only [List.mem_cons, List.not_mem_nil, or_false] at hv'
        rcases hv' with rfl | rfl <;> omega
def timesS (w p : Pr) : Int := if 0 < w.1 then (if 0 < w.2 then min (p.1 / w.1) (p.2 / w.2) else p.1 / w.1) else p.2 / w.2
def leftS (w p : Pr) (o : Int) : Pr := (p.1 - o * w.1, p.2 - o * w.2)
def hitL (ws : List Pr) (p : Pr) (o : Int) : Bool := match ws with
  | [] => false
  | [w] => decide (leftS w p o = (0, 0))
  | w :: v :: _ => decide (leftS w p o = (timesS v (leftS w p o) * v.1, timesS v (leftS w p o) * v.2))
def sumL (ws : List Pr) (p : Pr) : Bool := if min p.1 p.2 < 0 then false else match ws with
  | [] => decide (p = (0, 0))
  | w :: r => (rgI 0 (timesS w p + 1).toNat).any (hitL (w :: r) p)
def totalS (ks : List Int) (ws : List Pr) : Pr := (ks.zip ws).foldl (fun f r => (f.1 + r.1 * r.2.1, f.2 + r.1 * r.2.2)) (0, 0)
def inL (l : Lot) (s : Pr) : Bool := sumL l.2 (s.1 - l.1.1, s.2 - l.1.2)
end Ll
set_option Elab.async false
set_option linter.all false
set_option maxRecDepth 100000
set_option maxHeartbeats 4000000
namespace K39
open PySem PySem.Spec PyProof.Rows L2 Pv Xv Ll
section
variable {P : Program} {w : World} {K : PySem.W.Frag} {mg : Str → Option Value} {base : Heap} {T : List (Addr × Str)}
def okE : List Sv → Bag → Prop := fun xs _ => xs = []
def wayR : List Sv → Bag → Sv → Bag → Prop := fun _ b y b' => y = .d (prI (wayF b).1) ∧ b' = (wayF b).2
theorem fn_way (hm : Md K mg) : Cl P w K mg base 2 "_law_way" s__law_way ["bag"] (bagSp K T okE wayR) := by
  have CD := fn_draw (P := P) (w := w) (base := base) hm
  refine .of hm.d__law_way (fun _ _ _ _ _ _ us hl => match us, hl with | [_], _ => rfl) fun f fd F => fnB F sc__law_way (by rintro _ _ rfl; rfl) ?_
  rintro cdv hcdv A outer s H hr B C b xs rfl bok
  refine q_par2 1 2 (a_cons (x_draw CD x_int (by decide) (by decide)) (a_cons (x_draw CD x_int (by decide) (by decide)) a_nil)) ?_
  refine q_ret (x := .d (prI (wayF b).1)) (j := (wayF b).2) (x_ifK (c'_gt (x_add x_v x_v) x_int).tst (fun h => ?_) (fun h => ?_)) ⟨_, _, ⟨rfl, rfl⟩, rfl⟩
  · have h1 := of_decide_eq_true h
    have e : wayF b = (((dr b 5).1, (dr (dr b 5).2 5).1), (dr (dr b 5).2 5).2) := by
      unfold wayF
      rw [if_pos h1]
    rw [e]
    exact x_tup (d_cons x_v (d_cons x_v d_nil))
  · have h1 := of_decide_eq_false h
    have e : wayF b = ((1, (dr (dr (dr b 5).2 5).2 3).1), (dr (dr (dr b 5).2 5).2 3).2) := by
      unfold wayF
      rw [if_neg h1]
    rw [e]
    exact x_tup (d_cons x_int (d_cons (x_draw CD x_int (by decide) (by decide)) d_nil))
def lotR : List Sv → Bag → Sv → Bag → Prop := fun _ b y b' => y = .d (lotD (lotF b).1) ∧ b' = (lotF b).2
theorem sort_set {u v : Pr} (h : ∀ p ∈ [u, v], 0 ≤ p.1 ∧ p.1 < 64 ∧ 0 ≤ p.2 ∧ p.2 < 64) : (sortW u v).Pairwise fun p q => p.1 * 64 + p.2 ≤ q.1 * 64 + q.2 := by
  have hu := h u (by simp)
  have hv := h v (by simp)
  unfold sortW
  split
  · exact List.pairwise_singleton ..
  · rename_i hne
    split
    · rename_i hl
      unfold Ll.ltP at hl
      simp only [List.pairwise_cons, List.mem_singleton, forall_eq, List.not_mem_nil, false_implies, implies_true, List.Pairwise.nil, and_true]
      omega
    · rename_i hl
      unfold Ll.ltP at hl
      simp only [List.pairwise_cons, List.mem_singleton, forall_eq, List.not_mem_nil, false_implies, implies_true, List.Pairwise.nil, and_true]
      omega
theorem fn_lot (hm : Md K mg) : Cl P w K mg base 3 "_law_lot" s__law_lot ["bag"] (bagSp K T okE lotR) := by
  have CD := fn_draw (P := P) (w := w) (base := base) hm
  have CW := fn_way (P := P) (w := w) (base := base) (T := T) hm
  refine .of hm.d__law_lot (fun _ _ _ _ _ _ us hl => match us, hl with | [_], _ => rfl) fun f fd F => fnB F sc__law_lot (by rintro _ _ rfl; rfl) ?_
  rintro cdv hcdv A outer s H hr B C b xs rfl bok
  obtain ⟨o1, a1, a2⟩ := dr_ok (below := 7) bok (by decide)
  obtain ⟨o2, b1, b2⟩ := dr_ok (below := 7) o1 (by decide)
  obtain ⟨o3, c1, c2⟩ := dr_ok (below := 4) o2 (by decide)
  obtain ⟨o4, w1⟩ := wayF_ok o3
  obtain ⟨o5, w2⟩ := wayF_ok o4
  refine q_par2 1 2 (x := .d (prI ((dr b 7).1, (dr (dr b 7).2 7).1))) (a_cons (x_tup (d_cons (x_draw CD x_int (by decide) (by decide)) (d_cons (x_draw CD x_int (by decide) (by decide)) d_nil))) (a_cons (x_draw CD x_int (by decide) (by decide)) a_nil)) ?_
  have wcall : ∀ {Y : Fam} {p pb pos : Pos} {Γ : Xv.Ctx} {i : Bag}, True := trivial
  refine q_when (c'_eqi x_v x_int).tst (fun h => ?_) (fun h => ?_)
  · have h1 := of_decide_eq_true h
    refine q_ret (x_tup (d_cons x_v (d_cons (x_tup d_nil) d_nil))) ⟨_, _, ⟨?_, ?_⟩, rfl⟩
    all_goals
      simp only [lotF]
      rw [if_pos h1]
      try rfl
  have n1 := of_decide_eq_false h
  refine q_set 3 (x_bag (y := .d (prI (wayF (dr (dr (dr b 7).2 7).2 4).2).1)) (k := (wayF (dr (dr (dr b 7).2 7).2 4).2).2) CW a_nil rfl (fun _ _ h => h)) ?_
  refine q_when (c'_eqi x_v x_int).tst (fun h => ?_) (fun h => ?_)
  · have h1 := of_decide_eq_true h
    refine q_ret (x_tup (d_cons x_v (d_cons (x_tup (d_cons x_v d_nil)) d_nil))) ⟨_, _, ⟨?_, ?_⟩, rfl⟩
    all_goals
      simp only [lotF]
      rw [if_neg n1, if_pos h1]
      try rfl
  have n2 := of_decide_eq_false h
  generalize hw1 : wayF (dr (dr (dr b 7).2 7).2 4).2 = r1 at *
  refine q_set 4 (x_bag (y := .d (prI (wayF r1.2).1)) (k := (wayF r1.2).2) CW a_nil rfl (fun _ _ h => h)) ?_
  generalize hw2 : wayF r1.2 = r2 at *
  have fin : ∀ {Y : Fam}, True := trivial
  refine q_if (c'_eqi x_v x_int).tst (fun h => ?_) (fun h => ?_)
  · have h1 := of_decide_eq_true h
    obtain ⟨o6, d1, d2⟩ := dr_ok (below := 2) o5 (by decide)
    refine q_set 4 (x := .d (prI (mulP (if (dr r2.2 2).1 = 0 then 2 else 3) r1.1))) (j := (dr r2.2 2).2) (x_if (c'_eqi (x_draw CD x_int (by decide) (by decide)) x_int).tst (fun h => ?_) (fun h => ?_)) ?_
    · rw [if_pos (of_decide_eq_true h)]
      exact x_tup (d_cons (x_mul (x_ixt x_v x_int rfl) x_int (.inr (by decide))) (d_cons (x_mul (x_ixt x_v x_int rfl) x_int (.inr (by decide))) d_nil))
    · rw [if_neg (of_decide_eq_false h)]
      exact x_tup (d_cons (x_mul (x_ixt x_v x_int rfl) x_int (.inr (by decide))) (d_cons (x_mul (x_ixt x_v x_int rfl) x_int (.inr (by decide))) d_nil))
    generalize hk : (if (dr r2.2 2).1 = 0 then (2 : Int) else 3) = kk
    have hk' : 2 ≤ kk ∧ kk ≤ 3 := by
      rw [← hk]
      split <;> omega
    have hb : ∀ p ∈ [r1.1, mulP kk r1.1], 0 ≤ p.1 ∧ p.1 < 64 ∧ 0 ≤ p.2 ∧ p.2 < 64 := by
      intro p hp
      simp only [List.mem_cons, List.not_mem_nil, or_false] at hp
      rcases hp with rfl | rfl
      · omega
      · have : kk = 2 ∨ kk = 3 := by omega
        rcases this with rfl | rfl <;> unfold mulP <;> simp only <;> omega
    refine q_nil (q_ret (x_tup (d_cons x_v (d_cons (x_tupR (bi hm) (XL.r (xl_sortSet (ps := [r1.1, mulP kk r1.1]) (M := sortW r1.1 (mulP kk r1.1)) (bi hm) (bi hm) (XL.r (xl_lst (d_cons x_v (d_cons x_v d_nil)))) (by simp) hb (fun p => sortW_mem) sortW_lot.2.2 (sort_set hb)))) d_nil))) ⟨_, _, ⟨?_, ?_⟩, rfl⟩)
    all_goals
      simp only [lotF, hw1, hw2]
      rw [if_neg n1, if_neg n2, if_pos h1, hk]
      try rfl
  · have h1 := of_decide_eq_false h
    have hb : ∀ p ∈ [r1.1, r2.1], 0 ≤ p.1 ∧ p.1 < 64 ∧ 0 ≤ p.2 ∧ p.2 < 64 := by
      intro p hp
      simp only [List.mem_cons, List.not_mem_nil, or_false] at hp
      rcases hp with rfl | rfl <;> omega
    refine q_nil (q_ret (x_tup (d_cons x_v (d_cons (x_tupR (bi hm) (XL.r (xl_sortSet (ps := [r1.1, r2.1]) (M := sortW r1.1 r2.1) (bi hm) (bi hm) (XL.r (xl_lst (d_cons x_v (d_cons x_v d_nil)))) (by simp) hb (fun p => sortW_mem) sortW_lot.2.2 (sort_set hb)))) d_nil))) ⟨_, _, ⟨?_, ?_⟩, rfl⟩)
    all_goals
      simp only [lotF, hw1, hw2]
      rw [if_neg n1, if_neg n2, if_neg h1]
      try rfl
def timesR : List Sv → Sv → Prop := fun xs y => ∃ v p, xs = [.d (prI v), .d (prI p)] ∧ WOk v ∧ y = .d (.int (timesS v p))
theorem fn_times (hm : Md K mg) : Cl P w K mg base 1 "_law_times" s__law_times ["way", "pair"] (pureSp K timesR) := by
  refine .of hm.d__law_times (fun _ _ _ _ _ _ us hl => match us, hl with | [_, _], _ => rfl) fun f fd F => fnX F sc__law_times (by rintro _ _ ⟨_, _, rfl, _⟩; rfl) ?_
  rintro cdv A outer s H hr xs y ⟨v, p, rfl, hv, rfl⟩
  unfold WOk at hv
  refine q_setlcp 2 [("a", 3), ("b", 4)] (fun r : Int × Int => decide (0 < r.1)) (fun r => .int (r.2 / r.1)) (i_lst (xs := [v.1, v.2].zip [p.1, p.2]) (enc := fun r => .tuple [.int r.1, .int r.2]) (XL.cold (xl_listZipE (xs := [v.1, v.2]) (ys := [p.1, p.2]) (f := .int) (g := .int) (bi hm) (bi hm) (X.qt x_v) (X.qt x_v)))) (by simp) (fun r hr => turn_1 (xg_2 3 4) (c'_gt x_v x_int).tst (fun h => x_fdiv x_v x_v ⟨of_decide_eq_true h, ?_⟩)) ?_
  · simp only [List.zip_cons_cons, List.zip_nil_right, List.mem_cons, List.not_mem_nil, or_false] at hr
    rcases hr with rfl | rfl <;> simp only <;> omega
  by_cases h1 : 0 < v.1 <;> by_cases h2 : 0 < v.2
  · rw [show (([v.1, v.2].zip [p.1, p.2]).filter fun r : Int × Int => decide (0 < r.1)).map (fun r => PyData.int (r.2 / r.1)) = ((p.1 / v.1) :: [p.2 / v.2]).map .int by simp [h1, h2]]
    refine q_ret (.is (x_minL (bi hm) xr_v) ?_) (.inl ⟨_, rfl⟩)
    unfold timesS
    rw [if_pos h1, if_pos h2]
    rfl
  · rw [show (([v.1, v.2].zip [p.1, p.2]).filter fun r : Int × Int => decide (0 < r.1)).map (fun r => PyData.int (r.2 / r.1)) = ((p.1 / v.1) :: []).map .int by simp [h1, h2]]
    refine q_ret (.is (x_minL (bi hm) xr_v) ?_) (.inl ⟨_, rfl⟩)
    unfold timesS
    rw [if_pos h1, if_neg h2]
    rfl
  · rw [show (([v.1, v.2].zip [p.1, p.2]).filter fun r : Int × Int => decide (0 < r.1)).map (fun r => PyData.int (r.2 / r.1)) = ((p.2 / v.2) :: []).map .int by simp [h1, h2]]
    refine q_ret (.is (x_minL (bi hm) xr_v) ?_) (.inl ⟨_, rfl⟩)
    unfold timesS
    rw [if_neg h1]
    rfl
  · omega
def sumLR : List Sv → Sv → Prop := fun xs y => ∃ ws p, xs = [.d (waysD ws), .d (prI p)] ∧ (∀ v ∈ ws, WOk v) ∧ ws.length ≤ 2 ∧ PB (10 ^ 9) p ∧ y = .d (.bool (sumL ws p))
theorem times_b {v p : Pr} (hv : WOk v) (hp : PB (10 ^ 9) p) : (timesS v p).natAbs < 10 ^ 9 := by
  have h1 := Int.natAbs_ediv_le_natAbs p.1 v.1
  have h2 := Int.natAbs_ediv_le_natAbs p.2 v.2
  obtain ⟨p1, p2⟩ := hp
  unfold timesS
  split
  · split
    · rcases Int.le_total (p.1 / v.1) (p.2 / v.2) with h | h
      · rw [Int.min_eq_left h]; omega
      · rw [Int.min_eq_right h]; omega
    · omega
  · omega
theorem fn_is_sumL (hm : Md K mg) : Cl P w K mg base 2 "_law_is_sum" s__law_is_sum ["ways", "pair"] (pureSp K sumLR) := by
  have C1 := fn_times (P := P) (w := w) (base := base) hm
  refine .of hm.d__law_is_sum (fun _ _ _ _ _ _ us hl => match us, hl with | [_, _], _ => rfl) fun f fd F => fnX F sc__law_is_sum (by rintro _ _ ⟨_, _, rfl, _⟩; rfl) ?_
  rintro cdv A outer s H hr xs y ⟨ws, p, rfl, hw, hl, hp, rfl⟩
  refine q_when (c'_lt (x_minT (n := p.1) (ns := [p.2]) (bi hm) x_v) x_int).tst (fun h => ?_) (fun h => ?_)
  · have h1 : min p.1 p.2 < 0 := of_decide_eq_true h
    refine q_ret (.is x_bl ?_) (.inl ⟨_, rfl⟩)
    unfold sumL
    rw [if_pos h1]
  have h1 : ¬ min p.1 p.2 < 0 := of_decide_eq_false h
  match ws, hl, hw with
  | [], _, _ =>
    refine q_when (u := true) (XT.is (c'_eqd x_v (x_tup d_nil) rfl rfl).tst rfl) (fun _ => ?_) (fun h => by cases h)
    refine q_ret (.is (c'_eqd x_v (x_tup (d_cons x_int (d_cons x_int d_nil))) rfl rfl).val ?_) (.inl ⟨_, rfl⟩)
    rw [show PyData.tuple [.int 0, .int 0] = prI (0, 0) from rfl, eqv_pair]
    unfold sumL
    rw [if_neg h1]
  | [v], _, hw =>
    have hv := hw v (by simp)
    have hv' := hv
    unfold WOk at hv'
    have tb := times_b hv hp
    have e0 : sumL [v] p = (rgI 0 (timesS v p + 1).toNat).any (hitL [v] p) := by
      unfold sumL
      rw [if_neg h1]
    refine q_when (u := false) (XT.is (c'_eqd x_v (x_tup d_nil) rfl rfl).tst rfl) (fun h => by cases h) (fun _ => ?_)
    refine q_set 2 (x_ixt x_v x_int rfl) ?_
    refine q_for (fun done Γ (_ : Unit) => (∃ s1 s2 : Sl, Γ = [.v (.d (waysD [v])), .v (.d (prI p)), .v (.d (prI v)), s1, s2, .no, .no]) ∧ done.any (hitL [v] p) = false)
      (i_rg1 (bi hm) (x_add (x_call C1 (a_cons x_v (a_cons x_v a_nil)) ⟨v, p, rfl, hv, rfl⟩) x_int) (by omega)) ⟨⟨_, _, rfl⟩, rfl⟩ ?_ ?_
    · rintro done o todo _ c hx ⟨⟨s1, s2, rfl⟩, hd⟩
      refine ⟨_, _, xg_n 3, ?_⟩
      refine q_set 4 (x := .d (prI (leftS v p o))) (x_tup (d_cons (x_sub (x_ixt x_v x_int rfl) (x_mul x_v (x_ixt x_v x_int rfl) (smul' (by omega) (by omega)))) (d_cons (x_sub (x_ixt x_v x_int rfl) (x_mul x_v (x_ixt x_v x_int rfl) (smul' (by omega) (by omega)))) d_nil))) ?_
      refine q_when (u := true) (XT.is (c'_eqi (x_lenT (bi hm) x_v) x_int).tst rfl) (fun _ => ?_) (fun h => by cases h)
      have ee : PyData.eqv (prI (leftS v p o)) (.tuple [.int 0, .int 0]) = hitL [v] p o := by
        rw [show PyData.tuple [.int 0, .int 0] = prI (0, 0) from rfl, eqv_pair]
        rfl
      refine q_when (XT.is (c'_eqd x_v (x_tup (d_cons x_int (d_cons x_int d_nil))) rfl rfl).tst ee) (fun h => ?_) (fun h => ?_)
      · refine q_ret (.is x_bl ?_) (.inl ⟨_, rfl⟩)
        rw [e0, hx]
        simp [h]
      · refine q_cont ⟨⟨_, _, rfl⟩, ?_⟩
        rw [List.any_append, hd, List.any_cons, h]
        rfl
    · rintro _ c ⟨⟨s1, s2, rfl⟩, hd⟩
      refine q_ret (.is x_bl ?_) (.inl ⟨_, rfl⟩)
      rw [e0, hd]
  | [v, u], _, hw =>
    have hv := hw v (by simp)
    have hv' := hv
    unfold WOk at hv'
    have hu := hw u (by simp)
    have hu' := hu
    unfold WOk at hu'
    have tb := times_b hv hp
    have e0 : sumL [v, u] p = (rgI 0 (timesS v p + 1).toNat).any (hitL [v, u] p) := by
      unfold sumL
      rw [if_neg h1]
    refine q_when (u := false) (XT.is (c'_eqd x_v (x_tup d_nil) rfl rfl).tst rfl) (fun h => by cases h) (fun _ => ?_)
    refine q_set 2 (x_ixt x_v x_int rfl) ?_
    refine q_for (fun done Γ (_ : Unit) => (∃ s1 s2 s3 s4 : Sl, Γ = [.v (.d (waysD [v, u])), .v (.d (prI p)), .v (.d (prI v)), s1, s2, s3, s4]) ∧ done.any (hitL [v, u] p) = false)
      (i_rg1 (bi hm) (x_add (x_call C1 (a_cons x_v (a_cons x_v a_nil)) ⟨v, p, rfl, hv, rfl⟩) x_int) (by omega)) ⟨⟨_, _, _, _, rfl⟩, rfl⟩ ?_ ?_
    · rintro done o todo _ c hx ⟨⟨s1, s2, s3, s4, rfl⟩, hd⟩
      refine ⟨_, _, xg_n 3, ?_⟩
      refine q_set 4 (x := .d (prI (leftS v p o))) (x_tup (d_cons (x_sub (x_ixt x_v x_int rfl) (x_mul x_v (x_ixt x_v x_int rfl) (smul' (by omega) (by omega)))) (d_cons (x_sub (x_ixt x_v x_int rfl) (x_mul x_v (x_ixt x_v x_int rfl) (smul' (by omega) (by omega)))) d_nil))) ?_
      refine q_when (u := false) (XT.is (c'_eqi (x_lenT (bi hm) x_v) x_int).tst rfl) (fun h => by cases h) (fun _ => ?_)
      refine q_set 5 (x_ixt x_v x_int rfl) ?_
      refine q_set 6 (x_call C1 (a_cons x_v (a_cons x_v a_nil)) ⟨u, leftS v p o, rfl, hu, rfl⟩) ?_
      have ee : PyData.eqv (prI (leftS v p o)) (.tuple [.int (timesS u (leftS v p o) * u.1), .int (timesS u (leftS v p o) * u.2)]) = hitL [v, u] p o := by
        rw [show PyData.tuple [.int (timesS u (leftS v p o) * u.1), .int (timesS u (leftS v p o) * u.2)] = prI (timesS u (leftS v p o) * u.1, timesS u (leftS v p o) * u.2) from rfl, eqv_pair]
        rfl
      refine q_when (XT.is (c'_eqd x_v (x_tup (d_cons (x_mul x_v (x_ixt x_v x_int rfl) (smul' (by omega) (by omega))) (d_cons (x_mul x_v (x_ixt x_v x_int rfl) (smul' (by omega) (by omega))) d_nil))) rfl rfl).tst ee) (fun h => ?_) (fun h => ?_)
      · refine q_ret (.is x_bl ?_) (.inl ⟨_, rfl⟩)
        rw [e0, hx]
        simp [h]
      · refine q_nil ⟨⟨_, _, _, _, rfl⟩, ?_⟩
        rw [List.any_append, hd, List.any_cons, h]
        rfl
    · rintro _ c ⟨⟨s1, s2, s3, s4, rfl⟩, hd⟩
      refine q_ret (.is x_bl ?_) (.inl ⟨_, rfl⟩)
      rw [e0, hd]
  | _ :: _ :: _ :: _, hl, _ => exact absurd hl (by simp only [List.length_cons]; omega)
def inLR : List Sv → Sv → Prop := fun xs y => ∃ l st, xs = [.d (lotD l), .d (prI st)] ∧ LOk l ∧ PB (10 ^ 8) st ∧ y = .d (.bool (inL l st))
theorem fn_is_inL (hm : Md K mg) : Cl P w K mg base 3 "_law_is_in" s__law_is_in ["lot", "state"] (pureSp K inLR) := by
  have C1 := fn_is_sumL (P := P) (w := w) (base := base) hm
  refine .of hm.d__law_is_in (fun _ _ _ _ _ _ us hl => match us, hl with | [_, _], _ => rfl) fun f fd F => fnX F sc__law_is_in (by rintro _ _ ⟨_, _, rfl, _⟩; rfl) ?_
  rintro cdv A outer s H hr xs y ⟨l, st, rfl, hl, hst, rfl⟩
  obtain ⟨b1, b2⟩ := hl.b
  obtain ⟨s1, s2⟩ := hst
  refine q_asg x_v (xg_2 (d := prI l.1) (d2 := waysD l.2) 2 3) ?_
  exact q_ret (x_call C1 (a_cons x_v (a_cons (x_tup (d_cons (x_sub (x_ixt x_v x_int rfl) (x_ixt x_v x_int rfl)) (d_cons (x_sub (x_ixt x_v x_int rfl) (x_ixt x_v x_int rfl)) d_nil))) a_nil)) ⟨l.2, (st.1 - l.1.1, st.2 - l.1.2), rfl, hl.w, hl.n, ⟨by show (st.1 - l.1.1).natAbs < _; omega, by show (st.2 - l.1.2).natAbs < _; omega⟩, rfl⟩) (.inl ⟨_, rfl⟩)
def totalR : List Sv → Sv → Prop := fun xs y => ∃ o ks ws, xs = [.d o, .d (waysD ws)] ∧ (o = .list (ks.map .int) ∨ o = .tuple (ks.map .int)) ∧ (∀ v ∈ ws, WOk v) ∧ y = .d (prI (totalS ks ws))
theorem fn_total (hm : Md K mg) : Cl P w K mg base 1 "_law_total" s__law_total ["often", "ways"] (pureSp K totalR) := by
  refine .of hm.d__law_total (fun _ _ _ _ _ _ us hl => match us, hl with | [_, _], _ => rfl) fun f fd F => fnX F sc__law_total (by rintro _ _ ⟨_, _, _, rfl, _⟩; rfl) ?_
  rintro cdv A outer s H hr xs y ⟨o, ks, ws, rfl, ho, hw, rfl⟩
  refine q_setl 2 (xl_lst (d_cons x_int (d_cons x_int d_nil))) ?_
  refine q_for (fun done Γ (_ : Unit) => ∃ (s1 s2 : Sl) (g : Pr), Γ = [.v (.d o), .v (.d (waysD ws)), .l [.int g.1, .int g.2], s1, s2] ∧ g = done.foldl (fun f r => (f.1 + r.1 * r.2.1, f.2 + r.1 * r.2.2)) (0, 0))
    (i_lst (xs := ks.zip ws) (enc := fun r => .tuple [.int r.1, prI r.2]) (XL.cold (xl_listZipE (j := ()) (k := ()) (xs := ks) (ys := ws) (f := .int) (g := prI) (bi hm) (bi hm) ?_ (X.qt x_v)))) ⟨_, _, (0, 0), rfl, rfl⟩ ?_ ?_
  · rcases ho with rfl | rfl
    · exact XR.q (X.r x_v)
    · exact X.qt x_v
  · rintro done ⟨k, v⟩ todo _ c hx ⟨s1, s2, g, rfl, hg⟩
    have hv : WOk v := hw v (List.of_mem_zip (show (k, v) ∈ ks.zip ws by rw [hx]; simp)).2
    unfold WOk at hv
    refine ⟨_, _, xg_2 3 4, ?_⟩
    refine q_setl 2 (xl_lst (d_cons (x_add (x_ixr xr_v x_int rfl) (x_mul x_v (x_ixt x_v x_int rfl) (smul' (b := v.1) (by omega) (by omega)))) (d_cons (x_add (x_ixr xr_v x_int rfl) (x_mul x_v (x_ixt x_v x_int rfl) (smul' (b := v.2) (by omega) (by omega)))) d_nil))) ?_
    refine q_nil ⟨_, _, (g.1 + k * v.1, g.2 + k * v.2), rfl, ?_⟩
    rw [List.foldl_append, ← hg]
    rfl
  · rintro _ c ⟨s1, s2, g, rfl, hg⟩
    refine q_ret (.is (x_tup (d_cons (x_ixr xr_v x_int rfl) (d_cons (x_ixr xr_v x_int rfl) d_nil))) ?_) (.inl ⟨_, rfl⟩)
    unfold totalS
    rw [← hg]
    rfl
end
end K39
set_option Elab.async false
set_option linter.all false
set_option maxRecDepth 100000
set_option maxHeartbeats 4000000
/-! plain mathematics of the sums -/
namespace Ll
open PySem PySem.Spec PyProof.Rows L2 Pv Xv
def drJ (b : Bag) (m : Int) : Nat → Bag
  | 0 => b
  | k + 1 => (dr (drJ b m k) m).2
def oftL (b : Bag) (m : Int) (n : Nat) : List Int := (List.range n).map fun k => (dr (drJ b m k) m).1
theorem drJ_ok {b : Bag} {m : Int} (h : BagOk b) (hm : 0 < m) : ∀ k, BagOk (drJ b m k)
  | 0 => h
  | k + 1 => (dr_ok (drJ_ok h hm k) hm).1
theorem oftL_ok {b : Bag} {m : Int} (h : BagOk b) (hm : 0 < m) {n : Nat} : ∀ k ∈ oftL b m n, 0 ≤ k ∧ k < m := by
  intro k hk
  unfold oftL at hk
  rw [List.mem_map] at hk
  obtain ⟨q, _, rfl⟩ := hk
  exact (dr_ok (drJ_ok h hm q) hm).2
theorem oftL_len {b : Bag} {m : Int} {n : Nat} : (oftL b m n).length = n := by simp [oftL]
def absI (n : Int) : Int := if n < 0 then -n else n
theorem mul_b {k a n c : Int} (h0 : 0 ≤ k) (h1 : k ≤ n) (h2 : 0 ≤ a) (h3 : a ≤ c) (h4 : 0 ≤ c) : 0 ≤ k * a ∧ k * a ≤ n * c := ⟨Int.mul_nonneg h0 h2, Int.mul_le_mul h1 h3 h2 (by omega)⟩
theorem total_b {ks : List Int} {ws : List Pr} {n : Int} (hn : 0 ≤ n) (hk : ∀ k ∈ ks, 0 ≤ k ∧ k ≤ n) (hw : ∀ v ∈ ws, 0 ≤ v.1 ∧ v.1 ≤ 12 ∧ 0 ≤ v.2 ∧ v.2 ≤ 12) (hl : ws.length ≤ 2) : 0 ≤ (totalS ks ws).1 ∧ (totalS ks ws).1 ≤ n * 24 ∧ 0 ≤ (totalS ks ws).2 ∧ (totalS ks ws).2 ≤ n * 24 := by
  have one : ∀ k ∈ ks, ∀ v ∈ ws, 0 ≤ k * v.1 ∧ k * v.1 ≤ n * 12 ∧ 0 ≤ k * v.2 ∧ k * v.2 ≤ n * 12 := by
    intro k hk' v hv
    have a := hk k hk'
    have b := hw v hv
    have c := mul_b a.1 a.2 b.1 b.2.1 (by omega)
    have d := mul_b a.1 a.2 b.2.2.1 b.2.2.2 (by omega)
    omega
  match ks, ws, hl, one with
  | [], ws, _, _ => simp only [totalS, List.zip_nil_left, List.foldl_nil]; omega
  | _ :: _, [], _, _ => simp only [totalS, List.zip_nil_right, List.foldl_nil]; omega
  | [k], v :: ws, _, one =>
    have := one k (by simp) v (by simp)
    simp only [totalS, List.zip_cons_cons, List.zip_nil_left, List.foldl_cons, List.foldl_nil]
    omega
  | k :: _ :: _, [v], _, one =>
    have := one k (by simp) v (by simp)
    simp only [totalS, List.zip_cons_cons, List.zip_nil_right, List.foldl_cons, List.foldl_nil]
    omega
  | k :: q :: ks, [v, u], _, one =>
    have := one k (by simp) v (by simp)
    have := one q (by simp) u (by simp)
    simp only [totalS, List.zip_cons_cons, List.zip_nil_right, List.foldl_cons, List.foldl_nil]
    omega
  | _, _ :: _ :: _ :: _, hl, _ => exact absurd hl (by simp only [List.length_cons]; omega)
theorem often_iff {v p : Pr} (hv : WOk v) : (oftenS v p).isSome = true ↔ ∃ q : Int, 0 ≤ q ∧ p = (q * v.1, q * v.2) := by
  unfold oftenS
  constructor
  · intro h
    split at h
    · rename_i hc
      simp only [Bool.and_eq_true, decide_eq_true_eq] at hc
      exact ⟨_, hc.1, hc.2.symm⟩
    · cases h
  · rintro ⟨q, hq, rfl⟩
    have e : oftenN v (q * v.1, q * v.2) = q := by
      unfold oftenN
      unfold WOk at hv
      split
      · exact Int.mul_ediv_cancel _ (by omega)
      · exact Int.mul_ediv_cancel _ (by omega)
    rw [e, if_pos (by simp [hq])]
    rfl
def Rep : List Pr → Pr → Prop
  | [], p => p = (0, 0)
  | [w], p => ∃ q : Int, 0 ≤ q ∧ p = (q * w.1, q * w.2)
  | w :: v :: _, p => ∃ o q : Int, 0 ≤ o ∧ 0 ≤ q ∧ p = (o * w.1 + q * v.1, o * w.2 + q * v.2)
end Ll
set_option Elab.async false
set_option linter.all false
set_option maxRecDepth 100000
set_option maxHeartbeats 4000000
namespace Ll
open PySem PySem.Spec PyProof.Rows L2 Pv Xv
theorem mem_rgI0 {o n : Int} : o ∈ rgI 0 n.toNat ↔ 0 ≤ o ∧ o < n := by
  unfold rgI
  rw [List.mem_map]
  constructor
  · rintro ⟨k, hk, rfl⟩
    rw [List.mem_range] at hk
    omega
  · rintro ⟨h0, h1⟩
    exact ⟨o.toNat, by rw [List.mem_range]; omega, by omega⟩
theorem par_iff {w v p : Pr} (hw : WOk w) (hv : WOk v) (h0 : crossS w v = 0) : ((rgI 0 (v.1 + v.2).toNat).any fun o => (oftenS v (p.1 - o * w.1, p.2 - o * w.2)).isSome) = true ↔ Rep [w, v] p := by
  rw [List.any_eq_true]
  constructor
  · rintro ⟨o, ho, h⟩
    rw [mem_rgI0] at ho
    obtain ⟨q, hq, e⟩ := (often_iff hv).mp h
    injection e with e1 e2
    refine ⟨o, q, ho.1, hq, ?_⟩
    exact Prod.ext (by simp only; omega) (by simp only; omega)
  · rintro ⟨o, q, ho, hq, rfl⟩
    have hv' := hv
    have hw' := hw
    unfold WOk at hv' hw'
    have hn : 0 < v.1 + v.2 := by omega
    refine ⟨o % (v.1 + v.2), mem_rgI0.mpr ⟨Int.emod_nonneg _ (by omega), Int.emod_lt_of_pos _ hn⟩, ?_⟩
    rw [often_iff hv]
    have hd := Int.emod_add_mul_ediv o (v.1 + v.2)
    have hd0 : 0 ≤ o / (v.1 + v.2) := Int.ediv_nonneg ho (by omega)
    generalize o % (v.1 + v.2) = r at hd
    generalize o / (v.1 + v.2) = t at hd hd0
    unfold crossS at h0
    refine ⟨q + t * (w.1 + w.2), Int.add_nonneg hq (Int.mul_nonneg hd0 (by omega)), ?_⟩
    subst hd
    have k1 : t * (w.1 * v.2) = t * (w.2 * v.1) := by rw [show w.1 * v.2 = w.2 * v.1 by omega]
    refine Prod.ext ?_ ?_
    · simp only
      simp only [Int.add_mul, Int.mul_add, Int.mul_assoc, Int.mul_comm, Int.mul_left_comm] at k1 ⊢
      omega
    · simp only
      simp only [Int.add_mul, Int.mul_add, Int.mul_assoc, Int.mul_comm, Int.mul_left_comm] at k1 ⊢
      omega
theorem cramer {w v p : Pr} (h0 : crossS w v ≠ 0) : (decide ((p.1 * v.2 - p.2 * v.1).fmod (crossS w v) = 0) && (decide ((w.1 * p.2 - w.2 * p.1).fmod (crossS w v) = 0) && (decide (0 ≤ (p.1 * v.2 - p.2 * v.1).fdiv (crossS w v)) && decide (0 ≤ (w.1 * p.2 - w.2 * p.1).fdiv (crossS w v))))) = true ↔ Rep [w, v] p := by
  simp only [Bool.and_eq_true, decide_eq_true_eq]
  constructor
  · rintro ⟨a1, a2, b1, b2⟩
    have c1 := Int.mul_fdiv_add_fmod (p.1 * v.2 - p.2 * v.1) (crossS w v)
    have c2 := Int.mul_fdiv_add_fmod (w.1 * p.2 - w.2 * p.1) (crossS w v)
    rw [a1, Int.add_zero] at c1
    rw [a2, Int.add_zero] at c2
    generalize (p.1 * v.2 - p.2 * v.1).fdiv (crossS w v) = s at *
    generalize (w.1 * p.2 - w.2 * p.1).fdiv (crossS w v) = t at *
    refine ⟨s, t, b1, b2, ?_⟩
    have e1 : crossS w v * (s * w.1 + t * v.1) = crossS w v * p.1 := by
      have : crossS w v * (s * w.1 + t * v.1) = (crossS w v * s) * w.1 + (crossS w v * t) * v.1 := by
        rw [Int.mul_add, Int.mul_assoc, Int.mul_assoc]
      rw [this, c1, c2]
      unfold crossS
      simp only [Int.sub_mul, Int.mul_sub, Int.mul_assoc, Int.mul_comm, Int.mul_left_comm]
      omega
    have e2 : crossS w v * (s * w.2 + t * v.2) = crossS w v * p.2 := by
      have : crossS w v * (s * w.2 + t * v.2) = (crossS w v * s) * w.2 + (crossS w v * t) * v.2 := by
        rw [Int.mul_add, Int.mul_assoc, Int.mul_assoc]
      rw [this, c1, c2]
      unfold crossS
      simp only [Int.sub_mul, Int.mul_sub, Int.mul_assoc, Int.mul_comm, Int.mul_left_comm]
      omega
    exact Prod.ext (Int.eq_of_mul_eq_mul_left h0 e1).symm (Int.eq_of_mul_eq_mul_left h0 e2).symm
  · rintro ⟨o, q, ho, hq, rfl⟩
    have e1 : (o * w.1 + q * v.1) * v.2 - (o * w.2 + q * v.2) * v.1 = o * crossS w v := by
      unfold crossS
      simp only [Int.add_mul, Int.mul_add, Int.mul_sub, Int.mul_assoc, Int.mul_comm, Int.mul_left_comm]
      omega
    have e2 : w.1 * (o * w.2 + q * v.2) - w.2 * (o * w.1 + q * v.1) = q * crossS w v := by
      unfold crossS
      simp only [Int.mul_add, Int.mul_sub, Int.mul_assoc, Int.mul_comm, Int.mul_left_comm]
      omega
    simp only [e1, e2]
    rw [Int.mul_fdiv_cancel _ h0, Int.mul_fdiv_cancel _ h0]
    exact ⟨Int.mul_fmod_left .., Int.mul_fmod_left .., ho, hq⟩
theorem sumS_iff {ws : List Pr} {p : Pr} (hw : ∀ v ∈ ws, WOk v) (hl : ws.length ≤ 2) : isSumS ws p = true ↔ Rep ws p := by
  match ws, hl, hw with
  | [], _, _ => exact decide_eq_true_iff
  | [w], _, hw => exact often_iff (hw w (by simp))
  | [w, v], _, hw =>
    show (if crossS w v = 0 then _ else _) = true ↔ _
    split
    · rename_i h
      exact par_iff (hw w (by simp)) (hw v (by simp)) h
    · rename_i h
      exact cramer h
  | _ :: _ :: _ :: _, hl, _ => exact absurd hl (by simp only [List.length_cons]; omega)
theorem Rep.nn {ws : List Pr} {p : Pr} (hw : ∀ v ∈ ws, WOk v) (h : Rep ws p) : 0 ≤ p.1 ∧ 0 ≤ p.2 := by
  have nn : ∀ v ∈ ws, ∀ o : Int, 0 ≤ o → 0 ≤ o * v.1 ∧ 0 ≤ o * v.2 := by
    intro v hv o ho
    have := hw v hv
    unfold WOk at this
    exact ⟨Int.mul_nonneg ho (by omega), Int.mul_nonneg ho (by omega)⟩
  match ws, h, nn with
  | [], h, _ => cases h; simp
  | [w], ⟨q, hq, e⟩, nn => subst e; exact nn w (by simp) q hq
  | w :: v :: _, ⟨o, q, ho, hq, e⟩, nn =>
    subst e
    have a := nn w (by simp) o ho
    have b := nn v (by simp) q hq
    simp only
    omega
theorem times_le {w p : Pr} {o : Int} (hw : WOk w) (hp : 0 ≤ p.1 ∧ 0 ≤ p.2) (ho : 0 ≤ o) : o ≤ timesS w p ↔ o * w.1 ≤ p.1 ∧ o * w.2 ≤ p.2 := by
  unfold WOk at hw
  unfold timesS
  by_cases h1 : 0 < w.1
  · rw [if_pos h1]
    by_cases h2 : 0 < w.2
    · rw [if_pos h2, Int.le_min, Int.le_ediv_iff_mul_le h1, Int.le_ediv_iff_mul_le h2]
    · rw [if_neg h2, Int.le_ediv_iff_mul_le h1, show w.2 = 0 by omega, Int.mul_zero]
      exact ⟨fun h => ⟨h, hp.2⟩, fun h => h.1⟩
  · rw [if_neg h1, Int.le_ediv_iff_mul_le (by omega), show w.1 = 0 by omega, Int.mul_zero]
    exact ⟨fun h => ⟨hp.1, h⟩, fun h => h.2⟩
theorem times_eq {w : Pr} {q : Int} (hw : WOk w) : timesS w (q * w.1, q * w.2) = q := by
  unfold WOk at hw
  unfold timesS
  by_cases h1 : 0 < w.1
  · rw [if_pos h1]
    by_cases h2 : 0 < w.2
    · rw [if_pos h2]
      simp only
      rw [Int.mul_ediv_cancel _ (by omega), Int.mul_ediv_cancel _ (by omega), Int.min_self]
    · rw [if_neg h2]
      exact Int.mul_ediv_cancel _ (by omega)
  · rw [if_neg h1]
    exact Int.mul_ediv_cancel _ (by omega)
theorem times_nn {w p : Pr} (hw : WOk w) (hp : 0 ≤ p.1 ∧ 0 ≤ p.2) : 0 ≤ timesS w p := (times_le hw hp (Int.le_refl 0)).mpr ⟨by rw [Int.zero_mul]; exact hp.1, by rw [Int.zero_mul]; exact hp.2⟩
theorem sumL_iff {ws : List Pr} {p : Pr} (hw : ∀ v ∈ ws, WOk v) (hl : ws.length ≤ 2) : sumL ws p = true ↔ Rep ws p := by
  unfold sumL
  by_cases hm : min p.1 p.2 < 0
  · rw [if_pos hm]
    refine ⟨fun h => (by cases h), fun h => ?_⟩
    have := h.nn hw
    exact absurd hm (by omega)
  rw [if_neg hm]
  have hp : 0 ≤ p.1 ∧ 0 ≤ p.2 := by omega
  match ws, hl, hw with
  | [], _, _ => exact decide_eq_true_iff
  | [w], _, hw =>
    have hw0 := hw w (by simp)
    simp only [List.any_eq_true, hitL, decide_eq_true_eq]
    constructor
    · rintro ⟨o, ho, h⟩
      rw [mem_rgI0] at ho
      unfold leftS at h
      injection h with e1 e2
      exact ⟨o, ho.1, Prod.ext (by simp only; omega) (by simp only; omega)⟩
    · rintro ⟨q, hq, e⟩
      refine ⟨q, mem_rgI0.mpr ⟨hq, ?_⟩, ?_⟩
      · rw [e, times_eq hw0]
        omega
      · subst e
        unfold leftS
        exact Prod.ext (by simp only; omega) (by simp only; omega)
  | [w, v], _, hw =>
    have hw0 := hw w (by simp)
    have hv0 := hw v (by simp)
    simp only [List.any_eq_true, hitL, decide_eq_true_eq]
    constructor
    · rintro ⟨o, ho, h⟩
      rw [mem_rgI0] at ho
      have h2 := (times_le hw0 hp ho.1).mp (by omega)
      have hl : 0 ≤ (leftS w p o).1 ∧ 0 ≤ (leftS w p o).2 := by
        unfold leftS
        simp only
        omega
      have hq := times_nn hv0 hl
      refine ⟨o, timesS v (leftS w p o), ho.1, hq, ?_⟩
      generalize timesS v (leftS w p o) = q at h
      unfold leftS at h
      injection h with e1 e2
      exact Prod.ext (by simp only; omega) (by simp only; omega)
    · rintro ⟨o, q, ho, hq, e⟩
      have el : leftS w p o = (q * v.1, q * v.2) := by
        subst e
        unfold leftS
        exact Prod.ext (by simp only; omega) (by simp only; omega)
      have h1 : 0 ≤ q * v.1 ∧ 0 ≤ q * v.2 := by
        unfold WOk at hv0
        exact ⟨Int.mul_nonneg hq (by omega), Int.mul_nonneg hq (by omega)⟩
      refine ⟨o, mem_rgI0.mpr ⟨ho, ?_⟩, ?_⟩
      · have : o ≤ timesS w p := (times_le hw0 hp ho).mpr (by rw [e]; simp only; omega)
        omega
      · rw [el, times_eq hv0]
  | _ :: _ :: _ :: _, hl, _ => exact absurd hl (by simp only [List.length_cons]; omega)
theorem sum_eq {ws : List Pr} {p : Pr} (hw : ∀ v ∈ ws, WOk v) (hl : ws.length ≤ 2) : sumL ws p = isSumS ws p := by
  rw [Bool.eq_iff_iff, sumL_iff hw hl, sumS_iff hw hl]
theorem tot_rep {ks : List Int} {ws : List Pr} (hl : ws.length ≤ 2) (hk : ∀ k ∈ ks, 0 ≤ k) (hn : ks.length = ws.length) : Rep ws (totalS ks ws) := by
  match ks, ws, hl, hn, hk with
  | [], [], _, _, _ => rfl
  | [k], [w], _, _, hk => exact ⟨k, hk k (by simp), by simp [totalS]⟩
  | [k, q], [w, v], _, _, hk => exact ⟨k, q, hk k (by simp), hk q (by simp), by simp [totalS]⟩
  | _ :: _ :: _ :: _, [_, _], _, hn, _ => simp at hn
  | _, _ :: _ :: _ :: _, hl, _, _ => exact absurd hl (by simp only [List.length_cons]; omega)
theorem tot_eq {ks : List Int} {ws : List Pr} (hw : ∀ v ∈ ws, WOk v) (hl : ws.length ≤ 2) (hk : ∀ k ∈ ks, 0 ≤ k) (hn : ks.length = ws.length) : isSumS ws (totalS ks ws) = true := (sumS_iff hw hl).mpr (tot_rep hl hk hn)
theorem mod_abs (p d : Int) : decide (p % absI d = 0) = decide (p.fmod d = 0) := by
  have h : p % absI d = 0 ↔ p.fmod d = 0 := by
    have e : absI d ∣ p ↔ d ∣ p := by
      unfold absI
      split
      · exact Int.neg_dvd
      · exact Iff.rfl
    rw [← Int.dvd_iff_emod_eq_zero, e]
    exact Int.dvd_iff_fmod_eq_zero
  by_cases h1 : p.fmod d = 0
  · simp [h1, h.mpr h1]
  · rw [decide_eq_false h1, decide_eq_false fun z => h1 (h.mp z)]
theorem near_eq {u v p : Pr} (h : crossS u v ≠ 0) : isSumS [u, v] p = (decide ((p.1 * v.2 - p.2 * v.1) % absI (crossS u v) = 0) && (decide ((u.1 * p.2 - u.2 * p.1) % absI (crossS u v) = 0) && (decide (0 ≤ (p.1 * v.2 - p.2 * v.1).fdiv (crossS u v)) && decide (0 ≤ (u.1 * p.2 - u.2 * p.1).fdiv (crossS u v))))) := by
  rw [mod_abs, mod_abs]
  show (if crossS u v = 0 then _ else _) = _
  rw [if_neg h]
theorem inL_eq {l : Lot} {s : Pr} (h : LOk l) : inL l s = inLotS l s := sum_eq h.w h.n
end Ll
set_option Elab.async false
set_option linter.all false
set_option maxRecDepth 100000
set_option maxHeartbeats 8000000
namespace K39
open PySem PySem.Spec PyProof.Rows L2 Pv Xv Ll
section
variable {P : Program} {w : World} {K : PySem.W.Frag} {mg : Str → Option Value} {base : Heap} {T : List (Addr × Str)}
abbrev LamOf (K : PySem.W.Frag) (mg : Str → Option Value) (base : Heap) (T : List (Addr × Str)) (s : Str) (st : Stmt) (q : Str) := Lm K mg base T s st q
def okLot : List Sv → Bag → Prop := fun xs _ => ∃ l, xs = [.d (lotD l)] ∧ LawLot l
def trueR : List Sv → Bag → Sv → Bag → Prop := fun _ _ y _ => y = .d (.bool true)
theorem oft_val (b : Bag) (m : Int) (n : Nat) : ((List.range n).filter fun _ => true).map (fun k => PyData.int (dr (drJ b m k) m).1) = (oftL b m n).map .int := by
  unfold oftL
  rw [List.map_map, List.filter_eq_self.mpr fun _ _ => rfl]
  rfl
theorem fn_are_sums (hm : Md K mg) (L : Lm K mg base T "_law_are_sums" s__law_are_sums "_law_are_sums.<locals>.<lambda>") : Cl P w K mg base 10 "_law_are_sums" s__law_are_sums ["bag", "lot"] (bagSp K T okLot trueR) := by
  have CI := fn_is (P := P) (w := w) (base := base) hm 7
  have CD := fn_draw (P := P) (w := w) (base := base) hm
  have CT := fn_total (P := P) (w := w) (base := base) hm
  have CS := fn_is_sumL (P := P) (w := w) (base := base) hm
  have CW := fn_is_way_sum (P := P) (w := w) (base := base) hm
  have CN := fn_is_in_lot (P := P) (w := w) (base := base) hm
  refine .ofL L (fun _ _ _ _ _ _ us hl => match us, hl with | [_, _], _ => rfl) fun f fd Pt c F hcode TB hTm hTu => fnB F sc__law_are_sums (by rintro _ _ ⟨_, rfl, _⟩; rfl) ?_
  rintro cdv hcdv A outer s H hr B C b xs ⟨⟨bs, ws⟩, rfl, hL⟩ bok
  have LY := lamY_d (P := P) (w := w) (K := K) (N := N__law_are_sums) (nd := sc__law_are_sums.nd) (x := "_law_are_sums") (sc := defScope s__law_are_sums) (f := f) (cdv := cdv) (A := A) (outer := outer) (s := s) (H := H) (k := 9) (hr := hr) (T := T) (hcdv.symm.trans hcode) TB hTm hTu
  have hb := hL.b
  have hn : ws.length ≤ 2 := hL.n
  have hw : ∀ v ∈ ws, WOk v := hL.ok.w
  have hw12 : ∀ v ∈ ws, 0 ≤ v.1 ∧ v.1 ≤ 12 ∧ 0 ≤ v.2 ∧ v.2 ≤ 12 := fun v hv => by have := hL.w v hv; omega
  have lok : LOk (bs, ws) := hL.ok
  simp only at hb
  refine q_asg x_v (xg_2 (d := prI bs) (d2 := waysD ws) 2 3) ?_
  refine q_setlc 4 [("way", 5)] (xs := ws) (enc := prI) (drJ b 12) (fun _ => true) (fun k => .int (dr (drJ b 12 k) 12).1) (i_tup x_v) (by omega) (fun k v hk => turn_m (xg_n 5) (x_draw CD x_int (by decide) (by decide))) ?_
  rw [oft_val]
  have ho := oftL_ok bok (m := 12) (by decide) (n := ws.length)
  have hol := oftL_len (b := b) (m := 12) (n := ws.length)
  have bok1 := drJ_ok bok (m := 12) (by decide) ws.length
  generalize oftL b 12 ws.length = ks at ho hol
  generalize drJ b 12 ws.length = b1 at bok1
  refine q_ice 4 rfl ?_
  have ht := total_b (ks := ks) (ws := ws) (n := 11) (by decide) (fun k hk => by have := ho k hk; omega) hw12 hn
  refine q_set 6 (x_call CT (a_cons x_v (a_cons x_v a_nil)) ⟨_, ks, ws, rfl, .inl rfl, hw, rfl⟩) ?_
  generalize totalS ks ws = pr at ht
  obtain ⟨c1, e1, f1⟩ := dr_ok (below := 3) bok1 (by decide)
  obtain ⟨c2, e2, f2⟩ := dr_ok (below := 30) c1 (by decide)
  obtain ⟨c3, e3, f3⟩ := dr_ok (below := 30) c2 (by decide)
  refine q_setl 7 (xl_lst (d_cons x_v (d_cons (x_tup (d_cons (x_add (x_ixt x_v x_int rfl) (x_draw CD x_int (by decide) (by decide))) (d_cons (x_ixt x_v x_int rfl) d_nil))) (d_cons (x_tup (d_cons (x_sub (x_draw CD x_int (by decide) (by decide)) x_int) (d_cons (x_sub (x_draw CD x_int (by decide) (by decide)) x_int) d_nil))) d_nil)))) ?_
  refine q_extend 7 (xl_lst (d_cons (x_tup (d_cons x_int (d_cons x_int d_nil))) (d_cons (x_tup (d_cons (x_sub x_int (x_ixt x_v x_int rfl)) (d_cons (x_ixt x_v x_int rfl) d_nil))) d_nil))) rfl (by simp) ?_
  refine q_ice 7 rfl ?_
  generalize hd3 : (dr b1 3).1 = z1 at *
  generalize hd4 : (dr (dr b1 3).2 30).1 = z2 at *
  generalize hd5 : (dr (dr (dr b1 3).2 30).2 30).1 = z3 at *
  generalize hd6 : (dr (dr (dr b1 3).2 30).2 30).2 = b2 at *
  refine q_for (fun done Γ (_ : Bag) => ∃ s8 s9 s10 : Sl, Γ = [.at_ B, .v (.d (lotD (bs, ws))), .v (.d (prI bs)), .v (.d (waysD ws)), .v (.d (.list (ks.map .int))), .no, .v (.d (prI pr)), .v (.d (.list ([pr, (pr.1 + z1, pr.2), (z2 - 4, z3 - 4), (0, 0), (0 - pr.1, pr.2)].map prI))), s8, s9, s10, .no, .no, .no, .no, .no, .no, .no, .no, .no, .no])
    (i_lst (xs := [pr, (pr.1 + z1, pr.2), (z2 - 4, z3 - 4), (0, 0), (0 - pr.1, pr.2)]) (enc := prI) x_v) ⟨_, _, _, rfl⟩ ?_ ?_
  · rintro done own todo _ c' hx ⟨s8, s9, s10, rfl⟩
    have hob : own.1.natAbs < 1000 ∧ own.2.natAbs < 1000 := by
      have hmem : own ∈ [pr, (pr.1 + z1, pr.2), (z2 - 4, z3 - 4), (0, 0), (0 - pr.1, pr.2)] := by rw [hx]; simp
      simp only [List.mem_cons, List.not_mem_nil, or_false] at hmem
      rcases hmem with rfl | rfl | rfl | rfl | rfl <;> (try simp only) <;> omega
    have p9 : PB (10 ^ 9) own := ⟨by omega, by omega⟩
    have hs := sum_eq (p := own) hw hn
    refine ⟨_, _, xg_n 8, ?_⟩
    refine q_set 9 (x_call CS (a_cons x_v (a_cons x_v a_nil)) ⟨ws, own, rfl, hw, hn, p9, rfl⟩) ?_
    refine q_when (u := false) (t_not (t_val (x_is () CI LY (d := .bool (sumL ws own)) x_v (nz_bl _)
      (fun f c' cl => .is (x_call CW (a_cons x_v (a_cons x_v a_nil)) ⟨ws, own, rfl, hw, hn, p9, rfl⟩) (by rw [hs]))
      (fun f c' cl => .is (x_callK CW kw_is_way_sum (kw_cons x_v (kw_cons x_v kw_nil)) ⟨ws, own, rfl, hw, hn, p9, rfl⟩) (by rw [hs]))))) (fun h => by cases h) (fun _ => ?_)
    refine q_set 10 (x := .d (prI (bs.1 + own.1, bs.2 + own.2))) (x_tup (d_cons (x_add (x_ixt x_v x_int rfl) (x_ixt x_v x_int rfl)) (d_cons (x_add (x_ixt x_v x_int rfl) (x_ixt x_v x_int rfl)) d_nil))) ?_
    have p8 : PB (10 ^ 8) (bs.1 + own.1, bs.2 + own.2) := ⟨by simp only; omega, by simp only; omega⟩
    have hi : inLotS (bs, ws) (bs.1 + own.1, bs.2 + own.2) = sumL ws own := by
      rw [hs]
      unfold inLotS
      rw [show ((bs.1 + own.1, bs.2 + own.2).1 - bs.1, (bs.1 + own.1, bs.2 + own.2).2 - bs.2) = own from Prod.ext (by simp only; omega) (by simp only; omega)]
    refine q_when (u := false) (XT.is (t_w (w_and (c'_ge (x_minT (n := bs.1 + own.1) (ns := [bs.2 + own.2]) (bi hm) x_v) x_int).tst (fun _ => w_and1 (t_not (t_val (x_is () CI LY (d := .bool (sumL ws own)) x_v (nz_bl _)
      (fun f c' cl => .is (x_call CN (a_cons x_v (a_cons x_v a_nil)) ⟨(bs, ws), (bs.1 + own.1, bs.2 + own.2), rfl, lok, p8, rfl⟩) (by rw [hi]))
      (fun f c' cl => .is (x_callK CN kw_is_in_lot (kw_cons x_v (kw_cons x_v kw_nil)) ⟨(bs, ws), (bs.1 + own.1, bs.2 + own.2), rfl, lok, p8, rfl⟩) (by rw [hi])))))))) (by simp)) (fun h => by cases h) (fun _ => ?_)
    exact q_nil ⟨_, _, _, rfl⟩
  rintro _ c' ⟨s8, s9, s10, rfl⟩
  refine q_bag fun bok3 => ?_
  refine q_setlc 11 [("way", 5)] (xs := ws) (enc := prI) (drJ c' 1000000) (fun _ => true) (fun k => .int (dr (drJ c' 1000000 k) 1000000).1) (i_tup x_v) (by omega) (fun k v hk => turn_m (xg_n 5) (x_draw CD (X.is (fun _ _ _ _ => e_pow e_int e_int ⟨by decide, by decide, by decide⟩) (show _ = Sv.d (.int 1000000) from rfl)) (by decide) (by decide))) ?_
  rw [oft_val c' 1000000 ws.length]
  have hg := oftL_ok bok3 (m := 1000000) (by decide) (n := ws.length)
  have hgl := oftL_len (b := c') (m := 1000000) (n := ws.length)
  generalize oftL c' 1000000 ws.length = gs at hg hgl
  generalize drJ c' 1000000 ws.length = b4
  refine q_ice 11 rfl ?_
  have hg' : ∀ k ∈ gs, 0 ≤ k ∧ k ≤ 1000000 := fun k hk => by
    have := hg k hk
    omega
  have hf := total_b (ks := gs) (ws := ws) (n := 1000000) (by decide) hg' hw12 hn
  have hfe := tot_eq (ks := gs) hw hn (fun k hk => (hg' k hk).1) hgl
  refine q_set 12 (x_call CT (a_cons x_v (a_cons x_v a_nil)) ⟨_, gs, ws, rfl, .inl rfl, hw, rfl⟩) ?_
  generalize totalS gs ws = far at hf hfe
  have p9f : PB (10 ^ 9) far := ⟨by omega, by omega⟩
  refine q_when (u := false) (t_not (t_val (x_is () CI LY (d := .bool true) x_bl (nz_bl _)
    (fun f c' cl => .is (x_call CW (a_cons x_v (a_cons x_v a_nil)) ⟨ws, far, rfl, hw, hn, p9f, rfl⟩) (by rw [hfe]))
    (fun f c' cl => .is (x_callK CW kw_is_way_sum (kw_cons x_v (kw_cons x_v kw_nil)) ⟨ws, far, rfl, hw, hn, p9f, rfl⟩) (by rw [hfe]))))) (fun h => by cases h) (fun _ => ?_)
  match ws, hn, hw, hw12 with
  | [], _, _, _ =>
    exact q_when (u := true) (XT.is (c'_lt (x_lenT (bi hm) x_v) x_int).tst rfl) (fun _ => q_ret x_bl ⟨_, _, rfl, rfl⟩) (fun h => by cases h)
  | [_], _, _, _ =>
    exact q_when (u := true) (XT.is (c'_lt (x_lenT (bi hm) x_v) x_int).tst rfl) (fun _ => q_ret x_bl ⟨_, _, rfl, rfl⟩) (fun h => by cases h)
  | [u, v], hn, hw, hw12 =>
    have hu' := hw12 u (by simp)
    have hv' := hw12 v (by simp)
    refine q_when (u := false) (XT.is (c'_lt (x_lenT (bi hm) x_v) x_int).tst rfl) (fun h => by cases h) (fun _ => ?_)
    refine q_asg x_v (xg_tup (ds := [prI u, prI v]) (xgs_cons (xg_2 13 14) (xgs_cons (xg_2 15 16) xgs_nil))) ?_
    refine q_set 17 (x := .d (.int (crossS u v))) (x_sub (x_mul x_v x_v (smul (by omega) (by omega))) (x_mul x_v x_v (smul (by omega) (by omega)))) ?_
    refine q_set 18 (x := .d (prI (far.1 + 1, far.2))) (x_tup (d_cons (x_add (x_ixt x_v x_int rfl) x_int) (d_cons (x_ixt x_v x_int rfl) d_nil))) ?_
    have p9n : PB (10 ^ 9) (far.1 + 1, far.2) := ⟨by simp only; omega, by simp only; omega⟩
    generalize (far.1 + 1, far.2) = nr at p9n
    refine q_when (c'_eqi x_v x_int).tst (fun _ => q_ret x_bl ⟨_, _, rfl, rfl⟩) (fun h => ?_)
    have h0 : crossS u v ≠ 0 := of_decide_eq_false h
    have hcb := cross_b (hw u (by simp)) (hw v (by simp))
    have habs : 0 < absI (crossS u v) := by
      unfold absI
      split <;> omega
    refine q_par2 19 20 (x := .d (.int (nr.1 * v.2 - nr.2 * v.1))) (y := .d (.int (u.1 * nr.2 - u.2 * nr.1))) (a_cons (x_sub (x_mul (x_ixt x_v x_int rfl) x_v (smul' (by omega) (by omega))) (x_mul (x_ixt x_v x_int rfl) x_v (smul' (by omega) (by omega)))) (a_cons (x_sub (x_mul x_v (x_ixt x_v x_int rfl) (smul (by omega) (by omega))) (x_mul x_v (x_ixt x_v x_int rfl) (smul (by omega) (by omega)))) a_nil)) ?_
    have hne := near_eq (p := nr) h0
    refine q_set 9 (x := .d (.bool (isSumS [u, v] nr))) (.is (x_and (c'_eqi (x_mod x_v (x_abs (bi hm) x_v) habs) x_int).val (fun _ => x_and (c'_eqi (x_mod x_v (x_abs (bi hm) x_v) habs) x_int).val (fun _ => x_and (c'_ge (x_fdivN x_v x_v ⟨h0, hcb⟩) x_int).val (fun _ => x_one (c'_ge (x_fdivN x_v x_v ⟨h0, hcb⟩) x_int).val)))) (by rw [hne]; rfl)) ?_
    exact q_ret (x_is () CI LY (d := .bool (isSumS [u, v] nr)) x_v (nz_bl _)
      (fun f c' cl => x_call CW (a_cons x_v (a_cons x_v a_nil)) ⟨[u, v], nr, rfl, hw, hn, p9n, rfl⟩)
      (fun f c' cl => x_callK CW kw_is_way_sum (kw_cons x_v (kw_cons x_v kw_nil)) ⟨[u, v], nr, rfl, hw, hn, p9n, rfl⟩)) ⟨_, _, rfl, rfl⟩
  | _ :: _ :: _ :: _, hl, _, _ => exact absurd hl (by simp only [List.length_cons]; omega)
end
end K39
set_option Elab.async false
set_option linter.all false
set_option maxRecDepth 100000
set_option maxHeartbeats 4000000
/-! defs of the law that hand lambdas on but are not given the bag -/
namespace Xv
open PySem PySem.Spec PyProof.Rows L2 Pv
def tabSp (K : PySem.W.Frag) (T : List (Addr × Str)) (Ok : List Sv → Prop) (R : List Sv → Sv → Prop) : Spg := fun vs H Q => ∃ (W : Wd) (B C : Addr) (b : Bag) (xs : List Sv), W.H = H ∧ BagR B C T b W ∧ AllIs K W.F vs xs ∧ Ok xs ∧
  ∀ y b', R xs y → ∀ v V, Le (lawM B C T).M W V → BagR B C T b' V → Is K V.F v y → Q v V.H
theorem fnT {P : Program} {w : World} {K : PySem.W.Frag} {mg : Str → Option Value} {base : Heap} {T : List (Addr × Str)} {x : Str} {st : Stmt} {f : Addr} {fd : FuncData} {N ps : List Str} {k : Nat} {Ok : List Sv → Prop} {R : List Sv → Sv → Prop} (F : FnD K x st f fd) (Sc : FnScope N ps (defScope st))
    (hl : ∀ xs, Ok xs → xs.length = ps.length)
    (hbody : ∀ (cdv : Value) (_ : fd.code = cdv) (A : Around) (outer : List Env) (s : Shared) (H : Hp) (hr : RoomG k (A.deeper (envOfC x (defScope st) s.heap.objs.size f cdv))) (B C : Addr) (b : Bag) (xs : List Sv), Ok xs → BagOk b →
      S (lawM B C T) (dFam P w K mg base N Sc.nd x (defScope st) f cdv A outer s H k hr) (startC N xs) b (defBody st) (fun o => ∃ y b', R xs y ∧ o = .rt y b')) : FnG P w K mg base (k + 1) f fd ps (tabSp K T Ok R) :=
  fnG_ofC F Sc (fun vs H Q ⟨W, B, C, b, xs, _, _, ha, ho, _⟩ => by rw [ha.len]; exact hl xs ho)
    fun cdv hcdv A outer s H hr vs Q ⟨W, B, C, b, xs, hW, r, ha, ho, q⟩ => by
      subst hW
      exact hbody cdv hcdv A outer s W.H hr B C b xs ho r.ok W _ W _ (ag_start ha) r fun o ⟨y, b', hR, e⟩ => by
        subst e
        exact fun v W' _ l r' hv => q y b' hR v W' l r' hv
section
variable {B C : Addr} {T : List (Addr × Str)} {Y : Fam} {Γ : Ctx} {i j k : Bag} {s sb : Str} {p pb pos : Pos} {e : Expr} {es : List Expr} {y : Sv}
/-- such a call: the bag behind is some other one -/
theorem x_tabT {q : Nat} {st : Stmt} {ps : List Str} {Ok : List Sv → Prop} {R : List Sv → Sv → Prop} {xs : List Sv} (C0 : Cl Y.P Y.w Y.K Y.mg Y.base q s st ps (tabSp Y.K T Ok R)) (ha : ∀ c, BagOk c → XA (lawM B C T) Y Γ c (e :: es) xs c) (ho : Ok xs) (hR : ∀ y', R xs y' → y' = y)
    (hq : q ≤ Y.k := by exact Nat.le_of_ble_eq_true rfl) (hg : Gb Y s := by rfl) (hdb : (s == ("__debug__" : Str)) = false := by decide)
    (he : Se Y e es := by intro _; rfl) (hpl : Bt Y pos es := by intro _; rfl) : ∀ W0 σ W, Ag (lawM B C T) Y.K W0 Γ σ W → E (mx (lawM B C T)) Y σ W () (.Call (.Name s p) (e :: es) [] pos) y () := fun W0 σ W A U l ⟨c, r⟩ Q z => by
  obtain ⟨f, fd, m1, m2, m3⟩ := C0.ex
  exact ⟨fun σ H Q => wA Y (e :: es) σ H fun vs H1 => tabSp Y.K T Ok R vs H1 Q, fun a => pe_callG (by rw [Y.hP, Y.hw, Y.hK, Y.hmg, Y.hbase]; exact m3) ((Y.hr a).mono hq) (hg.gl a) (by rw [Y.hmg]; exact m1) (by rw [Y.hK]; exact m2.kp) (by rw [Y.hK]; exact m2.bindsN C0.b) (wA_ok a) hdb (he a) (hpl a),
    ha c r.ok W0 σ W A U l r _ fun vs T0 l0 r0 hvs => ⟨T0, B, C, c, xs, rfl, r0, hvs, ho, fun y' b' hr v V l' r' hv' => by
      have ey := hR y' hr
      subst ey
      exact z v V (l0.trans l') ⟨b', r'⟩ hv'⟩⟩
end
end Xv
set_option Elab.async false
set_option linter.all false
set_option maxRecDepth 100000
set_option maxHeartbeats 8000000
namespace Ll
open PySem PySem.Spec PyProof.Rows L2 Pv Xv
/-! halves -/
theorem half_iff {v p : Pr} (hv : WOk v) (hv2 : WOk (2 * v.1, 2 * v.2)) : isSumS [v] p = (isSumS [(2 * v.1, 2 * v.2)] p || isSumS [(2 * v.1, 2 * v.2)] (p.1 - v.1, p.2 - v.2)) := by
  rw [Bool.eq_iff_iff, Bool.or_eq_true]
  have a := often_iff (p := p) hv
  have b := often_iff (p := p) hv2
  have c := often_iff (p := (p.1 - v.1, p.2 - v.2)) hv2
  show (oftenS v p).isSome = true ↔ (oftenS (2 * v.1, 2 * v.2) p).isSome = true ∨ (oftenS (2 * v.1, 2 * v.2) (p.1 - v.1, p.2 - v.2)).isSome = true
  rw [a, b, c]
  constructor
  · rintro ⟨q, hq, rfl⟩
    have h2 : q % 2 = 0 ∨ q % 2 = 1 := by omega
    rcases h2 with h | h
    · refine .inl ⟨q / 2, by omega, ?_⟩
      have e : q = q / 2 * 2 := by omega
      refine Prod.ext ?_ ?_
      · simp only
        rw [← Int.mul_assoc, ← e]
      · simp only
        rw [← Int.mul_assoc, ← e]
    · refine .inr ⟨q / 2, by omega, ?_⟩
      have e : q = q / 2 * 2 + 1 := by omega
      have e2 : ∀ z : Int, q * z = q / 2 * (2 * z) + z := by
        intro z
        rw [← Int.mul_assoc]
        have : (q / 2 * 2 + 1) * z = q / 2 * 2 * z + z := by rw [Int.add_mul, Int.one_mul]
        rw [← e] at this
        exact this
      refine Prod.ext ?_ ?_
      · simp only
        have := e2 v.1
        omega
      · simp only
        have := e2 v.2
        omega
  · rintro (⟨q, hq, rfl⟩ | ⟨q, hq, h⟩)
    · refine ⟨q * 2, by omega, ?_⟩
      refine Prod.ext ?_ ?_
      · simp only
        rw [Int.mul_assoc]
      · simp only
        rw [Int.mul_assoc]
    · injection h with h1 h2
      simp only at h1 h2
      refine ⟨q * 2 + 1, by omega, ?_⟩
      have e2 : ∀ z : Int, (q * 2 + 1) * z = q * (2 * z) + z := by
        intro z
        rw [Int.add_mul, Int.one_mul, Int.mul_assoc]
      refine Prod.ext ?_ ?_
      · simp only
        have := e2 v.1
        omega
      · simp only
        have := e2 v.2
        omega
theorem halves_eq {b v : Pr} {t : Int} (hv : WOk v) (hv2 : WOk (2 * v.1, 2 * v.2)) : apartS [(b, [v])] [(b, [(2 * v.1, 2 * v.2)]), ((b.1 + v.1, b.2 + v.2), [(2 * v.1, 2 * v.2)])] t = none := by
  unfold apartS
  rw [List.find?_eq_none]
  intro s _
  have h := half_iff (p := (s.1 - b.1, s.2 - b.2)) hv hv2
  have e : inLotsS [(b, [v])] s = inLotsS [(b, [(2 * v.1, 2 * v.2)]), ((b.1 + v.1, b.2 + v.2), [(2 * v.1, 2 * v.2)])] s := by
    simp only [inLotsS, List.any_cons, List.any_nil, Bool.or_false, inLotS]
    rw [h]
    simp only
    rw [show (s.1 - b.1 - v.1, s.2 - b.2 - v.2) = (s.1 - (b.1 + v.1), s.2 - (b.2 + v.2)) from Prod.ext (by simp only; omega) (by simp only; omega)]
  rw [e]
  simp
/-! errors -/
theorem base_ok {b : Pr} (h : 0 ≤ b.1 ∧ b.1 ≤ 6 ∧ 0 ≤ b.2 ∧ b.2 ≤ 6) : areNumS (prI b) 2 0 1000 = true := by
  simp [areNumS, prI, withinS]
  omega
theorem isWay_ok {v : Pr} (h : 0 ≤ v.1 ∧ v.1 ≤ 12 ∧ 0 ≤ v.2 ∧ v.2 ≤ 12 ∧ 0 < v.1 + v.2) : isWayS (prI v) = true := by
  unfold isWayS
  have e : areNumS (prI v) 2 0 60 = true := by
    simp [areNumS, prI, withinS]
    omega
  rw [e, show PyData.tuple [.int 0, .int 0] = prI (0, 0) from rfl, eqv_pair, Bool.true_and, decide_eq_false]
  · rfl
  · intro hv
    rw [hv] at h
    simp at h
theorem lineErr_of {b : Pr} (h : 0 ≤ b.1 ∧ b.1 ≤ 6 ∧ 0 ≤ b.2 ∧ b.2 ≤ 6) (ws : List PD) : lineErrS (.tuple [prI b, .tuple ws]) = if 2 < ws.length then .str "many" else tailErr ws (oddW ws) := by
  show (if areNumS (prI b) 2 0 1000 = false then PyData.str "base" else _) = _
  rw [if_neg (by rw [base_ok h]; exact Bool.noConfusion)]
theorem odd_nil {ws : List PD} (h : ∀ d ∈ ws, isWayS d = true) : oddW ws = [] := by
  unfold oddW
  rw [List.filter_eq_nil_iff.mpr]
  · rfl
  · intro r hr
    have := List.mem_of_getElem? (List.mem_zipIdx_iff_getElem?.mp hr)
    rw [h _ this]
    simp
theorem lt_pr {u v : Pr} (h : Ll.ltP u v) : PySem.W.dataLt (prI u) (prI v) = true := (PySem.W.dataLt_ii u.1 u.2 v.1 v.2).trans (decide_eq_true h)
theorem line_ok {l : Lot} (h : LawLot l) : lineErrS (lotD l) = .none := by
  obtain ⟨b, ws⟩ := l
  have hw := h.w
  have hn := h.n
  have hs := h.s
  simp only at hw hn hs
  show lineErrS (.tuple [prI b, .tuple (ws.map prI)]) = _
  rw [lineErr_of h.b, if_neg (by rw [List.length_map]; omega), odd_nil fun d hd => by
    obtain ⟨v, hv, rfl⟩ := List.mem_map.mp hd
    exact isWay_ok (hw v hv)]
  match ws, hn, hs with
  | [], _, _ => rfl
  | [_], _, _ => rfl
  | [u, v], _, hs =>
    show (if PySem.W.dataLt (prI u) (prI v) = true then PyData.none else .str "order") = _
    rw [if_pos (lt_pr (hs u v rfl))]
  | _ :: _ :: _ :: _, hn, _ => exact absurd hn (by simp only [List.length_cons]; omega)
def vals1 (b : Pr) (ws : List Pr) : List (PD × PD) :=
  [(lotD (b, ws), .none), (.tuple [prI b, .list (ws.map prI)], .str "form"), (.tuple [prI b], .str "form"), (.tuple [prI (0, -1), waysD ws], .str "base"), (.tuple [prI (0, 1001), waysD ws], .str "base"),
   (.tuple [prI b, waysD [(1, 0), (2, 0), (3, 0)]], .str "many"), (.tuple [prI b, waysD [(0, 0)]], .tuple [.str "way", .int 0]), (.tuple [prI b, waysD [(1, 0), (61, 0)]], .tuple [.str "way", .int 1]),
   (.tuple [prI b, waysD [(2, 0), (1, 0)]], .str "order"), (.tuple [prI b, waysD [(1, 1), (1, 1)]], .str "order"), (.tuple [prI b, .tuple [.tuple [.bool true, .int 1]]], .tuple [.str "way", .int 0])]
theorem nc_s {s : Str} (h : PyData.strOk s = true) (hn : s.cps.size ≤ 100) : Nc (.str s) := (nz_str (k := 0) h hn).mono (by decide) (by decide)
theorem nc_t {s : Str} {k : Int} (h : PyData.strOk s = true) (hn : s.cps.size ≤ 100) (hk : k.natAbs < 1000) : Nc (.tuple [.str s, .int k]) := (nz_tup (N := 400) (nz_cons (k := 0) (n := 100) (nz_str h hn) (nz_cons ((nz_int (by omega)).mono (Nat.le_refl _) (by decide)) nz_nil)) (by simp)).mono (by decide) (by decide)
theorem fine_of {b : PD} {ws : List PD} (hb : sz1 b) (hn : ws.length ≤ 1000) (hw : ∀ d ∈ ws, sz1 d) : Fine (.tuple [b, .tuple ws]) := by
  intro b' ws' e
  injection e with e
  injection e with e1 e2
  injection e2 with e2 _
  injection e2 with e2
  subst e1 e2
  exact ⟨hb, hn, hw⟩
theorem fine_no {d : PD} (h : ∀ b ws, d ≠ .tuple [b, .tuple ws]) : Fine d := fun b ws e => absurd e (h b ws)
theorem sz_pr (p : Pr) : sz1 (prI p) := by
  intro ds e
  injection e with e
  subst e
  simp
theorem sz_ways {ws : List Pr} : ∀ d ∈ ws.map prI, sz1 d := by
  intro d hd
  obtain ⟨v, _, rfl⟩ := List.mem_map.mp hd
  exact sz_pr v
theorem fine_lot {l : Lot} (h : LawLot l) : Fine (lotD l) := fine_of (sz_pr _) (by rw [List.length_map]; have := h.n; omega) sz_ways
theorem vals1_ok {b : Pr} {ws : List Pr} (h : LawLot (b, ws)) : ∀ r ∈ vals1 b ws, lineErrS r.1 = r.2 ∧ Fine r.1 ∧ Nc r.2 := by
  have hb : 0 ≤ b.1 ∧ b.1 ≤ 6 ∧ 0 ≤ b.2 ∧ b.2 ≤ 6 := h.b
  have hn : (ws.map prI).length ≤ 1000 := by rw [List.length_map]; have := h.n; simp only at this; omega
  intro r hr
  simp only [vals1, List.mem_cons, List.not_mem_nil, or_false] at hr
  rcases hr with rfl | rfl | rfl | rfl | rfl | rfl | rfl | rfl | rfl | rfl | rfl
  · exact ⟨line_ok h, fine_lot h, nz_non⟩
  · exact ⟨rfl, fine_no (fun _ _ e => by injection e with e; injection e with _ e; injection e with e _; cases e), nc_s (by decide +kernel) (by decide +kernel)⟩
  · exact ⟨rfl, fine_no (fun _ _ e => by injection e with e; injection e with _ e; cases e), nc_s (by decide +kernel) (by decide +kernel)⟩
  · exact ⟨rfl, fine_of (sz_pr _) hn sz_ways, nc_s (by decide +kernel) (by decide +kernel)⟩
  · exact ⟨rfl, fine_of (sz_pr _) hn sz_ways, nc_s (by decide +kernel) (by decide +kernel)⟩
  · exact ⟨by rw [waysD, lineErr_of hb]; rfl, fine_of (sz_pr _) (by simp) sz_ways, nc_s (by decide +kernel) (by decide +kernel)⟩
  · exact ⟨by rw [waysD, lineErr_of hb]; rfl, fine_of (sz_pr _) (by simp) sz_ways, nc_t (by decide +kernel) (by decide +kernel) (by decide)⟩
  · exact ⟨by rw [waysD, lineErr_of hb]; rfl, fine_of (sz_pr _) (by simp) sz_ways, nc_t (by decide +kernel) (by decide +kernel) (by decide)⟩
  · exact ⟨by rw [waysD, lineErr_of hb]; rfl, fine_of (sz_pr _) (by simp) sz_ways, nc_s (by decide +kernel) (by decide +kernel)⟩
  · exact ⟨by rw [waysD, lineErr_of hb]; rfl, fine_of (sz_pr _) (by simp) sz_ways, nc_s (by decide +kernel) (by decide +kernel)⟩
  · exact ⟨by rw [lineErr_of hb]; rfl, fine_of (sz_pr _) (by simp) (fun d hd => by simp at hd; rw [hd]; intro ds e; injection e with e; subst e; simp), nc_t (by decide +kernel) (by decide +kernel) (by decide)⟩
def vals2 (l : Lot) (ls : List Lot) : List (PD × PD) :=
  [(lotsD ls, .none), (.list (ls.map lotD), .str "form"), (.tuple (List.replicate 21 [lotD l]).flatten, .str "many"), (.tuple (ls.map lotD ++ [prI l.1]), .tuple [.str "lot", .int (ls.length : Int)]), (.tuple [], .none)]
theorem oddL_app (ds : List PD) (d : PD) (h : ∀ x ∈ ds, lineErrS x = .none) (hd : isNoneD (lineErrS d) = false) : oddL (ds ++ [d]) = [ds.length] := by
  unfold oddL
  rw [List.zipIdx_append, List.filter_append, List.filter_eq_nil_iff.mpr]
  · simp [hd]
  · intro r hr
    have := List.mem_of_getElem? (List.mem_zipIdx_iff_getElem?.mp hr)
    rw [h _ this]
    simp [isNoneD]
theorem oddL_nil (ds : List PD) (h : ∀ x ∈ ds, lineErrS x = .none) : oddL ds = [] := by
  unfold oddL
  rw [List.filter_eq_nil_iff.mpr]
  · rfl
  · intro r hr
    have := List.mem_of_getElem? (List.mem_zipIdx_iff_getElem?.mp hr)
    rw [h _ this]
    simp [isNoneD]
theorem vals2_ok {l : Lot} {ls : List Lot} (h : LawLot l) (hs : ∀ q ∈ ls, LawLot q) (hn : ls.length ≤ 3) : ∀ r ∈ vals2 l ls, lotsErrS r.1 = r.2 ∧ (∀ ds, r.1 = .tuple ds → ds.length ≤ 1000 ∧ ∀ q ∈ ds, Fine q) ∧ Nc r.2 := by
  have al : ∀ x ∈ ls.map lotD, lineErrS x = .none := by
    intro x hx
    obtain ⟨q, hq, rfl⟩ := List.mem_map.mp hx
    exact line_ok (hs q hq)
  have af : ∀ x ∈ ls.map lotD, Fine x := by
    intro x hx
    obtain ⟨q, hq, rfl⟩ := List.mem_map.mp hx
    exact fine_lot (hs q hq)
  intro r hr
  simp only [vals2, List.mem_cons, List.not_mem_nil, or_false] at hr
  rcases hr with rfl | rfl | rfl | rfl | rfl
  · refine ⟨?_, ?_, nz_non⟩
    · show (if 20 < (ls.map lotD).length then _ else _) = _
      rw [if_neg (by rw [List.length_map]; omega), oddL_nil _ al]
    · intro ds e
      injection e with e
      subst e
      exact ⟨by rw [List.length_map]; omega, af⟩
  · exact ⟨rfl, (fun ds e => by cases e), nc_s (by decide +kernel) (by decide +kernel)⟩
  · refine ⟨?_, ?_, nc_s (by decide +kernel) (by decide +kernel)⟩
    · rfl
    · intro ds e
      injection e with e
      subst e
      refine ⟨by simp, fun q hq => ?_⟩
      simp only [List.mem_flatten, List.mem_replicate] at hq
      obtain ⟨z, ⟨_, rfl⟩, hq⟩ := hq
      rw [List.mem_singleton.mp hq]
      exact fine_lot h
  · refine ⟨?_, ?_, nc_t (by decide +kernel) (by decide +kernel) (by omega)⟩
    · show (if 20 < (ls.map lotD ++ [prI l.1]).length then _ else _) = _
      rw [if_neg (by rw [List.length_append, List.length_map]; simp only [List.length_cons, List.length_nil]; omega), oddL_app _ _ al rfl, List.length_map]
    · intro ds e
      injection e with e
      subst e
      refine ⟨by rw [List.length_append, List.length_map]; simp only [List.length_cons, List.length_nil]; omega, fun q hq => ?_⟩
      rcases List.mem_append.mp hq with hq | hq
      · exact af q hq
      · rw [List.mem_singleton.mp hq]
        exact fine_no fun b' ws' e => by
          unfold prI at e
          injection e with e
          injection e with e1 e2
          injection e2 with e2 e3
          cases e2
  · exact ⟨rfl, (fun ds e => by injection e with e; subst e; simp), nz_non⟩
end Ll
set_option Elab.async false
set_option linter.all false
set_option maxRecDepth 100000
set_option maxHeartbeats 8000000
namespace K39
open PySem PySem.Spec PyProof.Rows L2 Pv Xv Ll
section
variable {P : Program} {w : World} {K : PySem.W.Frag} {mg : Str → Option Value} {base : Heap} {T : List (Addr × Str)}
theorem fn_are_halves (hm : Md K mg) (L : Lm K mg base T "_law_are_halves" s__law_are_halves "_law_are_halves.<locals>.<lambda>") : Cl P w K mg base 10 "_law_are_halves" s__law_are_halves ["bag", "lot"] (bagSp K T okLot trueR) := by
  have CI := fn_is (P := P) (w := w) (base := base) hm 7
  have CA := fn_first_apart_state (P := P) (w := w) (base := base) hm
  refine .ofL L (fun _ _ _ _ _ _ us hl => match us, hl with | [_, _], _ => rfl) fun f fd Pt c F hcode TB hTm hTu => fnB F sc__law_are_halves (by rintro _ _ ⟨_, rfl, _⟩; rfl) ?_
  rintro cdv hcdv A outer s H hr B C b xs ⟨⟨bs, ws⟩, rfl, hL⟩ bok
  have LY := lamY_d (P := P) (w := w) (K := K) (N := N__law_are_halves) (nd := sc__law_are_halves.nd) (x := "_law_are_halves") (sc := defScope s__law_are_halves) (f := f) (cdv := cdv) (A := A) (outer := outer) (s := s) (H := H) (k := 9) (hr := hr) (T := T) (hcdv.symm.trans hcode) TB hTm hTu
  have hb := hL.b
  have hn : ws.length ≤ 2 := hL.n
  have hw12 : ∀ v ∈ ws, 0 ≤ v.1 ∧ v.1 ≤ 12 ∧ 0 ≤ v.2 ∧ v.2 ≤ 12 ∧ 0 < v.1 + v.2 := hL.w
  have lok : LOk (bs, ws) := hL.ok
  simp only at hb
  refine q_asg x_v (xg_2 (d := prI bs) (d2 := waysD ws) 2 3) ?_
  match ws, hn, hw12, lok with
  | [], _, _, _ => exact q_when (u := true) (XT.is (c'_nei (x_lenT (bi hm) x_v) x_int).tst rfl) (fun _ => q_ret x_bl ⟨_, _, rfl, rfl⟩) (fun h => by cases h)
  | [_, _], _, _, _ => exact q_when (u := true) (XT.is (c'_nei (x_lenT (bi hm) x_v) x_int).tst rfl) (fun _ => q_ret x_bl ⟨_, _, rfl, rfl⟩) (fun h => by cases h)
  | _ :: _ :: _ :: _, hl, _, _ => exact absurd hl (by simp only [List.length_cons]; omega)
  | [v], _, hw12, lok =>
    have hv := hw12 v (by simp)
    have v1 : WOk v := lok.w v (by simp)
    have v2 : WOk (2 * v.1, 2 * v.2) := by
      unfold WOk
      simp only
      omega
    refine q_when (u := false) (XT.is (c'_nei (x_lenT (bi hm) x_v) x_int).tst rfl) (fun h => by cases h) (fun _ => ?_)
    refine q_asg (x_tup (d_cons (x_ixt (d := prI v) x_v x_int rfl) (d_cons x_v d_nil))) (xg_tup (xgs_cons (xg_2 (d := .int v.1) (d2 := .int v.2) 4 5) (xgs_cons (xg_2 (d := .int bs.1) (d2 := .int bs.2) 6 7) xgs_nil))) ?_
    have two : ∀ z : Int, CMul 2 z := fun z => .inl (by decide)
    refine q_set 8 (x := .d (lotsD [(bs, [(2 * v.1, 2 * v.2)]), ((bs.1 + v.1, bs.2 + v.2), [(2 * v.1, 2 * v.2)])])) (x_tup (d_cons (x_tup (d_cons x_v (d_cons (x_tup (d_cons (x_tup (d_cons (x_mul x_int x_v (two _)) (d_cons (x_mul x_int x_v (two _)) d_nil))) d_nil)) d_nil))) (d_cons (x_tup (d_cons (x_tup (d_cons (x_add x_v x_v) (d_cons (x_add x_v x_v) d_nil))) (d_cons (x_tup (d_cons (x_tup (d_cons (x_mul x_int x_v (two _)) (d_cons (x_mul x_int x_v (two _)) d_nil))) d_nil)) d_nil))) d_nil))) ?_
    have hz : apartS [(bs, [v])] [(bs, [(2 * v.1, 2 * v.2)]), ((bs.1 + v.1, bs.2 + v.2), [(2 * v.1, 2 * v.2)])] 20 = none := halves_eq v1 v2
    have l2 : ∀ l ∈ [(bs, [(2 * v.1, 2 * v.2)]), ((bs.1 + v.1, bs.2 + v.2), [(2 * v.1, 2 * v.2)])], LOk l := by
      intro l hl
      simp only [List.mem_cons, List.not_mem_nil, or_false] at hl
      rcases hl with rfl | rfl
      · exact ⟨by simp only; omega, by simp, fun u hu => by rw [List.mem_singleton.mp hu]; exact v2⟩
      · exact ⟨by simp only; omega, by simp, fun u hu => by rw [List.mem_singleton.mp hu]; exact v2⟩
    exact q_ret (x_is () CI LY (d := .none) x_non nz_non
      (fun f c' cl => .is (x_call CA (a_cons (x_tup (d_cons x_v d_nil)) (a_cons x_v (a_cons x_int a_nil))) ⟨[(bs, [v])], [(bs, [(2 * v.1, 2 * v.2)]), ((bs.1 + v.1, bs.2 + v.2), [(2 * v.1, 2 * v.2)])], 20, rfl, (fun l hl => by rw [List.mem_singleton.mp hl]; exact lok), by simp, l2, by simp, by decide, by decide, rfl⟩) (by rw [hz]; rfl))
      (fun f c' cl => .is (x_callK CA kw_first_apart_state (kw_cons x_int (kw_cons x_v (kw_cons (x_tup (d_cons x_v d_nil)) kw_nil))) ⟨[(bs, [v])], [(bs, [(2 * v.1, 2 * v.2)]), ((bs.1 + v.1, bs.2 + v.2), [(2 * v.1, 2 * v.2)])], 20, rfl, (fun l hl => by rw [List.mem_singleton.mp hl]; exact lok), by simp, l2, by simp, by decide, by decide, rfl⟩) (by rw [hz]; rfl))) ⟨_, _, rfl, rfl⟩
def okErr : List Sv → Prop := fun xs => ∃ l ls, xs = [.d (lotD l), .d (lotsD ls)] ∧ LawLot l ∧ (∀ q ∈ ls, LawLot q) ∧ ls.length ≤ 3
def trueR0 : List Sv → Sv → Prop := fun _ y => y = .d (.bool true)
theorem fn_are_errors (hm : Md K mg) (L : Lm K mg base T "_law_are_errors" s__law_are_errors "_law_are_errors.<locals>.<lambda>") : Cl P w K mg base 10 "_law_are_errors" s__law_are_errors ["lot", "lots"] (tabSp K T okErr trueR0) := by
  have CI := fn_is (P := P) (w := w) (base := base) hm 7
  have C1 := fn_line_lot_error (P := P) (w := w) (base := base) hm
  have C2 := fn_lots_error (P := P) (w := w) (base := base) hm
  refine .ofL L (fun _ _ _ _ _ _ us hl => match us, hl with | [_, _], _ => rfl) fun f fd Pt c F hcode TB hTm hTu => fnT F sc__law_are_errors (by rintro _ ⟨_, _, rfl, _⟩; rfl) ?_
  rintro cdv hcdv A outer s H hr B C b xs ⟨⟨bs, ws⟩, ls, rfl, hL, hLs, hln⟩ bok
  have LY := lamY_d (P := P) (w := w) (K := K) (N := N__law_are_errors) (nd := sc__law_are_errors.nd) (x := "_law_are_errors") (sc := defScope s__law_are_errors) (f := f) (cdv := cdv) (A := A) (outer := outer) (s := s) (H := H) (k := 9) (hr := hr) (T := T) (hcdv.symm.trans hcode) TB hTm hTu
  have hv1 := vals1_ok hL
  have hv2 := vals2_ok hL hLs hln
  have wl : ws.length ≤ 2 := hL.n
  refine q_asg x_v (xg_2 (d := prI bs) (d2 := waysD ws) 2 3) ?_
  refine q_setl 4 (xl_lst (d_cons (x_tup (d_cons x_v (d_cons x_non d_nil))) (d_cons (x_tup (d_cons (x_tup (d_cons x_v (d_cons (XL.cold (xl_listT (bi hm) x_v)) d_nil))) (d_cons x_str d_nil))) (d_cons (x_tup (d_cons (x_tup (d_cons x_v d_nil)) (d_cons x_str d_nil))) (d_cons (x_tup (d_cons (x_tup (d_cons (x_tup (d_cons x_int (d_cons (x_neg x_int) d_nil))) (d_cons x_v d_nil))) (d_cons x_str d_nil))) d_nil))))) ?_
  refine q_extend 4 (xl_lst (d_cons (x_tup (d_cons (x_tup (d_cons (x_tup (d_cons x_int (d_cons x_int d_nil))) (d_cons x_v d_nil))) (d_cons x_str d_nil))) (d_cons (x_tup (d_cons (x_tup (d_cons x_v (d_cons (x_tup (d_cons (x_tup (d_cons x_int (d_cons x_int d_nil))) (d_cons (x_tup (d_cons x_int (d_cons x_int d_nil))) (d_cons (x_tup (d_cons x_int (d_cons x_int d_nil))) d_nil)))) d_nil))) (d_cons x_str d_nil))) d_nil))) rfl (by simp) ?_
  refine q_extend 4 (xl_lst (d_cons (x_tup (d_cons (x_tup (d_cons x_v (d_cons (x_tup (d_cons (x_tup (d_cons x_int (d_cons x_int d_nil))) d_nil)) d_nil))) (d_cons (x_tup (d_cons x_str (d_cons x_int d_nil))) d_nil))) (d_cons (x_tup (d_cons (x_tup (d_cons x_v (d_cons (x_tup (d_cons (x_tup (d_cons x_int (d_cons x_int d_nil))) (d_cons (x_tup (d_cons x_int (d_cons x_int d_nil))) d_nil))) d_nil))) (d_cons (x_tup (d_cons x_str (d_cons x_int d_nil))) d_nil))) d_nil))) rfl (by simp) ?_
  refine q_extend 4 (xl_lst (d_cons (x_tup (d_cons (x_tup (d_cons x_v (d_cons (x_tup (d_cons (x_tup (d_cons x_int (d_cons x_int d_nil))) (d_cons (x_tup (d_cons x_int (d_cons x_int d_nil))) d_nil))) d_nil))) (d_cons x_str d_nil))) (d_cons (x_tup (d_cons (x_tup (d_cons x_v (d_cons (x_tup (d_cons (x_tup (d_cons x_int (d_cons x_int d_nil))) (d_cons (x_tup (d_cons x_int (d_cons x_int d_nil))) d_nil))) d_nil))) (d_cons x_str d_nil))) d_nil))) rfl (by simp) ?_
  refine q_append 4 (x_tup (d_cons (x_tup (d_cons x_v (d_cons (x_tup (d_cons (x_tup (d_cons x_bl (d_cons x_int d_nil))) d_nil)) d_nil))) (d_cons (x_tup (d_cons x_str (d_cons x_int d_nil))) d_nil))) rfl (by simp) ?_
  refine q_ice 4 rfl ?_
  refine q_for (fun done Γ (_ : Bag) => ∃ s5 s6 : Sl, Γ = [.v (.d (lotD (bs, ws))), .v (.d (lotsD ls)), .v (.d (prI bs)), .v (.d (waysD ws)), .v (.d (.list ((vals1 bs ws).map fun r => .tuple [r.1, r.2]))), s5, s6])
    (i_lst (xs := vals1 bs ws) (enc := fun r => .tuple [r.1, r.2]) x_v) ⟨_, _, rfl⟩ ?_ ?_
  · rintro done ⟨d, e⟩ todo _ c' hx ⟨s5, s6, rfl⟩
    obtain ⟨h1, h2, h3⟩ := hv1 (d, e) (by rw [hx]; simp)
    simp only at h1 h2 h3
    refine ⟨_, _, xg_2 5 6, ?_⟩
    refine q_when (u := false) (t_not (t_val (x_is () CI LY (d := e) x_v h3
      (fun f c' cl => .is (x_call C1 (a_cons x_v a_nil) ⟨d, rfl, h2, rfl⟩) (by rw [h1]))
      (fun f c' cl => .is (x_callK C1 kw_line_lot_error (kw_cons x_v kw_nil) ⟨d, rfl, h2, rfl⟩) (by rw [h1]))))) (fun h => by cases h) (fun _ => ?_)
    exact q_nil ⟨_, _, rfl⟩
  rintro _ c1 ⟨s5, s6, rfl⟩
  refine q_setl 4 (xl_lst (d_cons (x_tup (d_cons x_v (d_cons x_non d_nil))) (d_cons (x_tup (d_cons (XL.cold (xl_listT (bi hm) x_v)) (d_cons x_str d_nil))) (d_cons (x_tup (d_cons (x_mulT (x_tup (d_cons x_v d_nil)) x_int (by simp) (by decide) (by simp)) (d_cons x_str d_nil))) (d_cons (x_tup (d_cons (x_catT x_v (x_tup (d_cons x_v d_nil)) (by rw [List.length_map]; simp only [List.length_cons, List.length_nil]; omega)) (d_cons (x_tup (d_cons x_str (d_cons (x_lenT (bi hm) x_v) d_nil))) d_nil))) d_nil))))) ?_
  have ev : ((vals2 (bs, ws) ls).map fun r => PyData.tuple [r.1, r.2]) = [.tuple [lotsD ls, .none], .tuple [.list (ls.map lotD), .str "form"], .tuple [.tuple (List.replicate 21 [lotD (bs, ws)]).flatten, .str "many"], .tuple [.tuple (ls.map lotD ++ [prI bs]), .tuple [.str "lot", .int ((ls.map lotD).length : Int)]]] ++ [.tuple [.tuple [], .none]] := by
    rw [List.length_map]
    rfl
  refine q_for (fun done Γ (_ : Bag) => ∃ s5 s6 : Sl, Γ = [.v (.d (lotD (bs, ws))), .v (.d (lotsD ls)), .v (.d (prI bs)), .v (.d (waysD ws)), .l [.tuple [lotsD ls, .none], .tuple [.list (ls.map lotD), .str "form"], .tuple [.tuple (List.replicate 21 [lotD (bs, ws)]).flatten, .str "many"], .tuple [.tuple (ls.map lotD ++ [prI bs]), .tuple [.str "lot", .int ((ls.map lotD).length : Int)]]], s5, s6])
    (i_lst (xs := vals2 (bs, ws) ls) (enc := fun r => .tuple [r.1, r.2]) (by rw [ev]; exact XL.cold (xl_cat xn_v (XL.n (xl_lst (d_cons (x_tup (d_cons (x_tup d_nil) (d_cons x_non d_nil))) d_nil))) (by simp)))) ⟨_, _, rfl⟩ ?_ ?_
  · rintro done ⟨d, e⟩ todo _ c' hx ⟨s5, s6, rfl⟩
    obtain ⟨h1, h2, h3⟩ := hv2 (d, e) (by rw [hx]; simp)
    simp only at h1 h2 h3
    refine ⟨_, _, xg_2 5 6, ?_⟩
    refine q_when (u := false) (t_not (t_val (x_is () CI LY (d := e) x_v h3
      (fun f c' cl => .is (x_call C2 (a_cons x_v a_nil) ⟨d, rfl, h2, rfl⟩) (by rw [h1]))
      (fun f c' cl => .is (x_callK C2 kw_lots_error (kw_cons x_v kw_nil) ⟨d, rfl, h2, rfl⟩) (by rw [h1]))))) (fun h => by cases h) (fun _ => ?_)
    exact q_nil ⟨_, _, rfl⟩
  rintro _ c2 ⟨s5, s6, rfl⟩
  exact q_ret x_bl ⟨_, _, rfl, rfl⟩
end
end K39
set_option Elab.async false
set_option linter.all false
set_option maxRecDepth 100000
set_option maxHeartbeats 4000000
/-! plain mathematics of the least rows -/
namespace Ll
open PySem PySem.Spec PyProof.Rows L2 Pv Xv
def rowsN : Nat → List (List Int)
  | 0 => [[]]
  | n + 1 => (rowsN n).flatMap fun r => (rgI 0 11).map fun k => r ++ [k]
def okRow (l : Lot) (t : Pr) (r : List Int) : Bool := decide (t.1 ≤ l.1.1 + (totalS r l.2).1) && decide (t.2 ≤ l.1.2 + (totalS r l.2).2)
def gStep (ok : List Int → Bool) (found : List (List Int)) (row : List Int) : List (List Int) := if ok row && !(found.any fun far => belowS far row) then found ++ [row] else found
def minL (ok : List Int → Bool) (L : List (List Int)) (r : List Int) : Bool := ok r && !(L.any fun r' => ok r' && (decide (r' ≠ r) && belowS r' r))
theorem below_refl : ∀ r : List Int, belowS r r = true
  | [] => rfl
  | x :: r => by
    have := below_refl r
    unfold belowS at this ⊢
    simp only [List.zip_cons_cons, List.all_cons, this]
    simp
theorem below_trans : ∀ {a b c : List Int}, a.length = b.length → b.length = c.length → belowS a b = true → belowS b c = true → belowS a c = true
  | [], _, _, _, _, _, _ => rfl
  | x :: a, [], _, h, _, _, _ => by simp at h
  | x :: a, y :: b, [], _, h, _, _ => by simp at h
  | x :: a, y :: b, z :: c, h1, h2, h3, h4 => by
    unfold belowS at h3 h4 ⊢
    simp only [List.zip_cons_cons, List.all_cons, Bool.and_eq_true, decide_eq_true_eq] at h3 h4 ⊢
    exact ⟨by omega, below_trans (a := a) (b := b) (c := c) (by simpa using h1) (by simpa using h2) h3.2 h4.2⟩
theorem greedy_filter (ok : List Int → Bool) (L : List (List Int)) (hp : L.Pairwise fun a b => belowS b a = false) (hl : ∀ a ∈ L, ∀ b ∈ L, a.length = b.length) : L.foldl (gStep ok) [] = L.filter (minL ok L) := by
  have key : ∀ B A, L = A ++ B → (∀ r ∈ A, ok r = true → ∃ m ∈ A.filter (minL ok L), belowS m r = true) → B.foldl (gStep ok) (A.filter (minL ok L)) = L.filter (minL ok L) := by
    intro B
    induction B with
    | nil =>
      intro A hA _
      rw [List.append_nil] at hA
      rw [← hA]
      rfl
    | cons r B ih =>
      intro A hA inv
      have hr : r ∈ L := by rw [hA]; simp
      have hin : ∀ x ∈ A, x ∈ L := fun x hx => by rw [hA]; simp [hx]
      have hpA : ∀ a ∈ A, belowS r a = false := fun a ha => by
        rw [hA] at hp
        exact (List.pairwise_append.mp hp).2.2 a ha r (by simp)
      have hpB : ∀ c ∈ B, belowS c r = false := fun c hc => by
        rw [hA] at hp
        exact (List.pairwise_cons.mp (List.pairwise_append.mp hp).2.1).1 c hc
      have he : ((A.filter (minL ok L)).any fun far => belowS far r) = L.any fun r' => ok r' && (decide (r' ≠ r) && belowS r' r) := by
        rw [Bool.eq_iff_iff, List.any_eq_true, List.any_eq_true]
        constructor
        · rintro ⟨m, hm, hb⟩
          rw [List.mem_filter] at hm
          have hok : ok m = true := by
            have := hm.2
            unfold minL at this
            rw [Bool.and_eq_true] at this
            exact this.1
          have hne : m ≠ r := fun e => by
            have := hpA m hm.1
            rw [e, below_refl] at this
            cases this
          exact ⟨m, hin m hm.1, by simp [hok, hne, hb]⟩
        · rintro ⟨x, hx, hb⟩
          simp only [Bool.and_eq_true, decide_eq_true_eq] at hb
          obtain ⟨h1, h2, h3⟩ := hb
          have hxA : x ∈ A := by
            rw [hA] at hx
            rcases List.mem_append.mp hx with h | h
            · exact h
            · rcases List.mem_cons.mp h with h | h
              · exact absurd h h2
              · rw [hpB x h] at h3
                cases h3
          obtain ⟨m, hm, hb⟩ := inv x hxA h1
          have hmL := hin m (List.mem_filter.mp hm).1
          exact ⟨m, hm, below_trans (hl m hmL x hx) (hl x hx r hr) hb h3⟩
      have hs : gStep ok (A.filter (minL ok L)) r = (A ++ [r]).filter (minL ok L) := by
        unfold gStep
        rw [he, List.filter_append]
        show (if minL ok L r = true then _ else _) = _
        rw [List.filter_cons]
        split
        · rfl
        · simp
      rw [List.foldl_cons, hs]
      refine ih (A ++ [r]) (by rw [hA]; simp) fun x hx hok => ?_
      rcases List.mem_append.mp hx with h | h
      · obtain ⟨m, hm, hb⟩ := inv x h hok
        exact ⟨m, by rw [List.filter_append]; exact List.mem_append.mpr (.inl hm), hb⟩
      · rw [List.mem_singleton] at h
        subst h
        by_cases hmin : minL ok L x = true
        · exact ⟨x, by rw [List.filter_append]; exact List.mem_append.mpr (.inr (by simp [hmin])), below_refl x⟩
        · have : (L.any fun r' => ok r' && (decide (r' ≠ x) && belowS r' x)) = true := by
            cases hz : (L.any fun r' => ok r' && (decide (r' ≠ x) && belowS r' x)) with
            | true => rfl
            | false => exact absurd (by unfold minL; rw [hok, hz]; rfl) hmin
          rw [← he, List.any_eq_true] at this
          obtain ⟨m, hm, hb⟩ := this
          exact ⟨m, by rw [List.filter_append]; exact List.mem_append.mpr (.inl hm), hb⟩
  exact key L [] rfl (fun r hr => by cases hr)
theorem ceil_iff {o t m k : Int} (hm : 0 < m) : (t - o + m - 1) / m ≤ k ↔ t ≤ o + k * m := by
  have h := Int.ediv_lt_iff_lt_mul (a := t - o + m - 1) (b := k + 1) hm
  rw [Int.add_mul, Int.one_mul] at h
  omega
theorem leastGo_iff : ∀ (L : List (Int × Int × Int)) (f : Int), (∀ r ∈ L, 0 ≤ r.2.1) → (∀ g, leastGo L f = some g → ∀ k, 0 ≤ k → (g ≤ k ↔ f ≤ k ∧ ∀ r ∈ L, r.2.2 ≤ r.1 + k * r.2.1)) ∧ (leastGo L f = none → ∀ k, 0 ≤ k → ¬ ∀ r ∈ L, r.2.2 ≤ r.1 + k * r.2.1)
  | [], f, _ => ⟨fun g h k _ => by cases h; simp, fun h => by cases h⟩
  | (o, m, t) :: L, f, hm => by
    have hm0 : 0 ≤ m := hm (o, m, t) (by simp)
    have ih := fun f' => leastGo_iff L f' fun r hr => hm r (by simp [hr])
    unfold leastGo
    by_cases h1 : o < t
    · rw [if_pos h1]
      by_cases h2 : m = 0
      · rw [if_pos h2]
        refine ⟨(fun g h => by cases h), fun _ k _ hk => ?_⟩
        have := hk (o, m, t) (by simp)
        simp only at this
        rw [h2, Int.mul_zero] at this
        omega
      · rw [if_neg h2]
        obtain ⟨i1, i2⟩ := ih (mxS f ((t - o + m - 1) / m))
        refine ⟨fun g h k hk => ?_, fun h k hk hz => i2 h k hk fun r hr => hz r (by simp [hr])⟩
        rw [i1 g h k hk]
        have hc := ceil_iff (o := o) (t := t) (m := m) (k := k) (by omega)
        have hx : mxS f ((t - o + m - 1) / m) ≤ k ↔ f ≤ k ∧ (t - o + m - 1) / m ≤ k := by
          unfold mxS
          split <;> omega
        rw [hx, hc]
        simp only [List.mem_cons, forall_eq_or_imp]
        exact and_assoc
    · rw [if_neg h1]
      obtain ⟨i1, i2⟩ := ih f
      refine ⟨fun g h k hk => ?_, fun h k hk hz => i2 h k hk fun r hr => hz r (by simp [hr])⟩
      rw [i1 g h k hk]
      have : 0 ≤ k * m := Int.mul_nonneg hk hm0
      simp only [List.mem_cons, forall_eq_or_imp]
      constructor
      · rintro ⟨a, b⟩
        exact ⟨a, by omega, b⟩
      · rintro ⟨a, _, b⟩
        exact ⟨a, b⟩
def okN (b v t : Pr) (k : Int) : Prop := t.1 ≤ b.1 + k * v.1 ∧ t.2 ≤ b.2 + k * v.2
theorem least_some {b v t : Pr} {g : Int} (hv : 0 ≤ v.1 ∧ 0 ≤ v.2) (h : leastS b v t = some g) : ∀ k, 0 ≤ k → (g ≤ k ↔ okN b v t k) := by
  intro k hk
  have := (leastGo_iff [(b.1, v.1, t.1), (b.2, v.2, t.2)] 0 (by simp; exact hv)).1 g h k hk
  rw [this]
  simp only [List.mem_cons, List.not_mem_nil, or_false, forall_eq_or_imp, forall_eq, okN]
  exact ⟨fun h => h.2, fun h => ⟨hk, h⟩⟩
theorem least_none {b v t : Pr} (hv : 0 ≤ v.1 ∧ 0 ≤ v.2) (h : leastS b v t = none) : ∀ k, 0 ≤ k → ¬ okN b v t k := by
  intro k hk
  have := (leastGo_iff [(b.1, v.1, t.1), (b.2, v.2, t.2)] 0 (by simp; exact hv)).2 h k hk
  simpa only [List.mem_cons, List.not_mem_nil, or_false, forall_eq_or_imp, forall_eq, okN] using this
theorem leastGo_nn : ∀ (L : List (Int × Int × Int)) (f g : Int), 0 ≤ f → leastGo L f = some g → 0 ≤ g
  | [], f, g, h, e => by cases e; exact h
  | (o, m, t) :: L, f, g, h, e => by
    unfold leastGo at e
    split at e
    · split at e
      · cases e
      · exact leastGo_nn L _ g (by unfold mxS; split <;> omega) e
    · exact leastGo_nn L _ g h e
theorem least_nn {b v t : Pr} {g : Int} (h : leastS b v t = some g) : 0 ≤ g := leastGo_nn _ 0 g (Int.le_refl 0) h
/-- 9 times is enough -/
theorem least_9 {b v t : Pr} {g : Int} (hb : 0 ≤ b.1 ∧ 0 ≤ b.2) (hv : 0 ≤ v.1 ∧ 0 ≤ v.2) (ht : t.1 ≤ 9 ∧ t.2 ≤ 9) (h : leastS b v t = some g) : g ≤ 9 := by
  have h0 := least_nn h
  have h1 := (least_some hv h g h0).mp (Int.le_refl g)
  refine (least_some hv h 9 (by omega)).mpr ?_
  unfold okN at h1 ⊢
  constructor
  · by_cases hz : v.1 = 0
    · rw [hz, Int.mul_zero] at h1 ⊢
      exact h1.1
    · omega
  · by_cases hz : v.2 = 0
    · rw [hz, Int.mul_zero] at h1 ⊢
      exact h1.2
    · omega
theorem mem11 {o : Int} : o ∈ rgI 0 11 ↔ 0 ≤ o ∧ o < 11 := mem_rgI0 (n := 11)
theorem mem10 {o : Int} : o ∈ rgI 0 10 ↔ 0 ≤ o ∧ o < 10 := mem_rgI0 (n := 10)
theorem rows1 : rowsN 1 = (rgI 0 11).map fun k => [k] := by decide +kernel
theorem rows2 : rowsN 2 = (rgI 0 11).flatMap fun f => (rgI 0 11).map fun g => [f, g] := by decide +kernel
theorem pw0 : (rowsN 0).Pairwise fun a b => belowS b a = false := by decide +kernel
theorem pw1 : (rowsN 1).Pairwise fun a b => belowS b a = false := by decide +kernel
theorem pw2 : (rowsN 2).Pairwise fun a b => belowS b a = false := by decide +kernel
theorem rowsN_len : ∀ n, ∀ r ∈ rowsN n, r.length = n
  | 0, r, h => by
    unfold rowsN at h
    rw [List.mem_singleton.mp h]
    rfl
  | n + 1, r, h => by
    unfold rowsN at h
    rw [List.mem_flatMap] at h
    obtain ⟨q, hq, h⟩ := h
    rw [List.mem_map] at h
    obtain ⟨k, _, rfl⟩ := h
    rw [List.length_append, rowsN_len n q hq]
    rfl
theorem filter_one {g0 : Int} (h0 : 0 ≤ g0) (h1 : g0 < 11) (c : Bool) : (rgI 0 11).filter (fun g => decide (g = g0) && c) = if c then [g0] else [] := by
  cases c with
  | false => simp
  | true =>
    simp only [Bool.and_true, if_true]
    have : g0 = 0 ∨ g0 = 1 ∨ g0 = 2 ∨ g0 = 3 ∨ g0 = 4 ∨ g0 = 5 ∨ g0 = 6 ∨ g0 = 7 ∨ g0 = 8 ∨ g0 = 9 ∨ g0 = 10 := by omega
    rcases this with rfl | rfl | rfl | rfl | rfl | rfl | rfl | rfl | rfl | rfl | rfl <;> decide
theorem flatMap_eq {α β : Type} {f g : α → List β} : ∀ {l : List α}, (∀ a ∈ l, f a = g a) → l.flatMap f = l.flatMap g
  | [], _ => rfl
  | a :: l, h => by
    rw [List.flatMap_cons, List.flatMap_cons, h a (by simp), flatMap_eq fun b hb => h b (by simp [hb])]
theorem fm_filter {α β : Type} (h : α → Option β) (p : β → Bool) : ∀ l : List α, (l.filterMap h).filter p = l.flatMap fun a => match h a with
    | some b => if p b then [b] else []
    | none => []
  | [] => rfl
  | a :: l => by
    rw [List.flatMap_cons, ← fm_filter h p l]
    cases e : h a with
    | none => rw [List.filterMap_cons_none e]; rfl
    | some b =>
      rw [List.filterMap_cons_some e, List.filter_cons]
      simp only
      split <;> rfl
def greedyS (l : Lot) (t : Pr) : List (List Int) := (rowsN l.2.length).foldl (gStep (okRow l t)) []
theorem bases0 {b t : Pr} : basesS (b, []) t = greedyS (b, []) t := by
  show (if belowS [t.1, t.2] [b.1, b.2] = true then [[]] else []) = gStep (okRow (b, []) t) [] []
  unfold gStep okRow belowS
  simp [totalS]
theorem ok1 {b w t : Pr} {k : Int} : okRow (b, [w]) t [k] = true ↔ okN b w t k := by
  unfold okRow okN
  simp [totalS]
theorem ok2 {b u v t : Pr} {f g : Int} : okRow (b, [u, v]) t [f, g] = true ↔ okN (goneS b u f) v t g := by
  unfold okRow okN goneS
  simp [totalS]
  omega
theorem bases1 {b w t : Pr} (hb : 0 ≤ b.1 ∧ 0 ≤ b.2) (hw : 0 ≤ w.1 ∧ 0 ≤ w.2) (ht : t.1 ≤ 9 ∧ t.2 ≤ 9) : basesS (b, [w]) t = greedyS (b, [w]) t := by
  have hg : greedyS (b, [w]) t = (rowsN 1).filter (minL (okRow (b, [w]) t) (rowsN 1)) := greedy_filter _ _ pw1 fun a ha c hc => by rw [rowsN_len 1 a ha, rowsN_len 1 c hc]
  rw [hg]
  show (match leastS b w t with
    | some o => [[o]]
    | none => []) = _
  cases h : leastS b w t with
  | none =>
    have hn := least_none hw h
    rw [List.filter_eq_nil_iff.mpr]
    intro r hr
    rw [rows1, List.mem_map] at hr
    obtain ⟨k, hk, rfl⟩ := hr
    unfold minL
    rw [mem11] at hk
    have : okRow (b, [w]) t [k] = false := by
      cases hz : okRow (b, [w]) t [k] with
      | false => rfl
      | true => exact absurd (ok1.mp hz) (hn k hk.1)
    rw [this]
    simp
  | some g =>
    have hs := least_some hw h
    have g0 := least_nn h
    have g9 := least_9 hb hw ht h
    have e : ∀ k ∈ rgI 0 11, minL (okRow (b, [w]) t) (rowsN 1) [k] = (decide (k = g) && true) := by
      intro k hk
      rw [mem11] at hk
      have hok : ∀ q, 0 ≤ q → (okRow (b, [w]) t [q] = true ↔ g ≤ q) := fun q hq => by rw [ok1, hs q hq]
      rw [Bool.and_true, Bool.eq_iff_iff]
      unfold minL
      rw [Bool.and_eq_true, Bool.not_eq_true', hok k hk.1, decide_eq_true_eq]
      constructor
      · rintro ⟨h1, h2⟩
        by_cases hkg : k = g
        · exact hkg
        · exfalso
          rw [Bool.eq_false_iff] at h2
          refine h2 (List.any_eq_true.mpr ⟨[g], by rw [rows1, List.mem_map]; exact ⟨g, mem11.mpr ⟨g0, by omega⟩, rfl⟩, ?_⟩)
          rw [(hok g g0).mpr (Int.le_refl g)]
          have : [g] ≠ [k] := fun e => hkg (by injection e with e; exact e.symm)
          simp [belowS, h1]
          omega
      · rintro rfl
        refine ⟨Int.le_refl _, ?_⟩
        rw [Bool.eq_false_iff]
        intro hz
        obtain ⟨r, hr, hz⟩ := List.any_eq_true.mp hz
        rw [rows1, List.mem_map] at hr
        obtain ⟨q, hq, rfl⟩ := hr
        rw [mem11] at hq
        simp only [Bool.and_eq_true, decide_eq_true_eq, belowS, List.zip_cons_cons, List.zip_nil_left, List.all_cons, List.all_nil, Bool.and_true] at hz
        have h1 := (hok q hq.1).mp hz.1
        have : q = k := by omega
        exact hz.2.1 (by rw [this])
    rw [rows1, List.filter_map]
    rw [rows1] at e
    have e2 : (rgI 0 11).filter (minL (okRow (b, [w]) t) ((rgI 0 11).map fun k => [k]) ∘ fun k => [k]) = (rgI 0 11).filter (fun k => decide (k = g) && true) := List.filter_congr e
    rw [e2, filter_one g0 (by omega)]
    rfl
theorem mem_r2 {r : List Int} : r ∈ rowsN 2 ↔ ∃ f g, (0 ≤ f ∧ f < 11) ∧ (0 ≤ g ∧ g < 11) ∧ r = [f, g] := by
  rw [rows2, List.mem_flatMap]
  constructor
  · rintro ⟨f, hf, h⟩
    obtain ⟨g, hg, rfl⟩ := List.mem_map.mp h
    exact ⟨f, g, mem11.mp hf, mem11.mp hg, rfl⟩
  · rintro ⟨f, g, hf, hg, rfl⟩
    exact ⟨f, mem11.mpr hf, List.mem_map.mpr ⟨g, mem11.mpr hg, rfl⟩⟩
theorem below2 {a b c d : Int} : belowS [a, b] [c, d] = true ↔ a ≤ c ∧ b ≤ d := by
  simp [belowS]
theorem bases2 {b u v t : Pr} (hb : 0 ≤ b.1 ∧ 0 ≤ b.2) (hu : 0 ≤ u.1 ∧ 0 ≤ u.2) (hv : 0 ≤ v.1 ∧ 0 ≤ v.2) (ht : t.1 ≤ 9 ∧ t.2 ≤ 9) : basesS (b, [u, v]) t = greedyS (b, [u, v]) t := by
  have hg : greedyS (b, [u, v]) t = (rowsN 2).filter (minL (okRow (b, [u, v]) t) (rowsN 2)) := greedy_filter _ _ pw2 fun a ha c hc => by rw [rowsN_len 2 a ha, rowsN_len 2 c hc]
  rw [hg]
  show leastB (someB b u v t) = _
  generalize hP : minL (okRow (b, [u, v]) t) (rowsN 2) = Pm
  have hok : ∀ f g, (okRow (b, [u, v]) t [f, g] = true ↔ okN (goneS b u f) v t g) := fun f g => ok2
  have gone_nn : ∀ f, 0 ≤ f → 0 ≤ (goneS b u f).1 ∧ 0 ≤ (goneS b u f).2 := by
    intro f hf
    have h1 := Int.mul_nonneg hf hu.1
    have h2 := Int.mul_nonneg hf hu.2
    unfold goneS
    simp only
    omega
  have mem_some : ∀ {r}, r ∈ someB b u v t ↔ ∃ f g, (0 ≤ f ∧ f < 10) ∧ leastS (goneS b u f) v t = some g ∧ r = [f, g] := by
    intro r
    unfold someB
    rw [List.mem_filterMap]
    constructor
    · rintro ⟨f, hf, h⟩
      cases hz : leastS (goneS b u f) v t with
      | none => rw [hz] at h; cases h
      | some g =>
        rw [hz] at h
        cases h
        exact ⟨f, g, mem10.mp hf, hz, rfl⟩
    · rintro ⟨f, g, hf, hz, rfl⟩
      exact ⟨f, mem10.mpr hf, by rw [hz]; rfl⟩
  have last : ((rgI 0 11).map fun g => [10, g]).filter Pm = [] := by
    rw [List.filter_eq_nil_iff]
    intro r hr
    obtain ⟨g, hg, rfl⟩ := List.mem_map.mp hr
    rw [mem11] at hg
    rw [← hP]
    unfold minL
    rw [Bool.and_eq_true, Bool.not_eq_true']
    rintro ⟨h1, h2⟩
    rw [Bool.eq_false_iff] at h2
    refine h2 (List.any_eq_true.mpr ⟨[9, g], mem_r2.mpr ⟨9, g, by omega, hg, rfl⟩, ?_⟩)
    have h9 : okRow (b, [u, v]) t [9, g] = true := by
      rw [hok] at h1 ⊢
      have k1 := Int.mul_nonneg hg.1 hv.1
      have k2 := Int.mul_nonneg hg.1 hv.2
      unfold okN goneS at h1 ⊢
      simp only at h1 ⊢
      omega
    rw [h9, below2.mpr ⟨by omega, Int.le_refl g⟩]
    simp
  have each : ∀ f ∈ rgI 0 10, ((rgI 0 11).map fun g => [f, g]).filter Pm = match (leastS (goneS b u f) v t).map fun g => [f, g] with
      | some c => if (!(someB b u v t).any fun other => decide (other ≠ c) && belowS other c) then [c] else []
      | none => [] := by
    intro f hf
    rw [mem10] at hf
    cases h : leastS (goneS b u f) v t with
    | none =>
      have hn := least_none hv h
      show _ = []
      rw [List.filter_eq_nil_iff]
      intro r hr
      obtain ⟨g, hg, rfl⟩ := List.mem_map.mp hr
      rw [mem11] at hg
      rw [← hP]
      unfold minL
      rw [Bool.and_eq_true]
      rintro ⟨h1, _⟩
      exact hn g hg.1 ((hok f g).mp h1)
    | some g0 =>
      have hs := least_some hv h
      have n0 := least_nn h
      have n9 := least_9 (gone_nn f hf.1) hv ht h
      show _ = if (!(someB b u v t).any fun other => decide (other ≠ [f, g0]) && belowS other [f, g0]) = true then [[f, g0]] else []
      have hokf : ∀ q, 0 ≤ q → (okRow (b, [u, v]) t [f, q] = true ↔ g0 ≤ q) := fun q hq => by rw [hok, hs q hq]
      have anyeq : ((rowsN 2).any fun r' => okRow (b, [u, v]) t r' && (decide (r' ≠ [f, g0]) && belowS r' [f, g0])) = (someB b u v t).any fun other => decide (other ≠ [f, g0]) && belowS other [f, g0] := by
        rw [Bool.eq_iff_iff, List.any_eq_true, List.any_eq_true]
        constructor
        · rintro ⟨r, hr, hz⟩
          obtain ⟨f', g', hf', hg', rfl⟩ := mem_r2.mp hr
          simp only [Bool.and_eq_true, decide_eq_true_eq] at hz
          obtain ⟨z1, z2, z3⟩ := hz
          rw [below2] at z3
          rw [hok] at z1
          cases h' : leastS (goneS b u f') v t with
          | none => exact absurd z1 (least_none hv h' g' hg'.1)
          | some g2 =>
            have hle := (least_some hv h' g' hg'.1).mpr z1
            refine ⟨[f', g2], mem_some.mpr ⟨f', g2, by omega, h', rfl⟩, ?_⟩
            rw [below2.mpr ⟨z3.1, by omega⟩, Bool.and_true, decide_eq_true_eq]
            intro e
            injection e with e1 e2
            injection e2 with e2 _
            exact z2 (by rw [e1, show g' = g0 by omega])
        · rintro ⟨r, hr, hz⟩
          obtain ⟨f', g2, hf', h', rfl⟩ := mem_some.mp hr
          simp only [Bool.and_eq_true, decide_eq_true_eq] at hz
          have m0 := least_nn h'
          have m9 := least_9 (gone_nn f' hf'.1) hv ht h'
          refine ⟨[f', g2], mem_r2.mpr ⟨f', g2, by omega, by omega, rfl⟩, ?_⟩
          rw [(hok f' g2).mpr ((least_some hv h' g2 m0).mp (Int.le_refl g2)), hz.2, Bool.and_true, Bool.true_and, decide_eq_true_eq]
          exact hz.1
      have e : ∀ g ∈ rgI 0 11, Pm [f, g] = (decide (g = g0) && (!(someB b u v t).any fun other => decide (other ≠ [f, g0]) && belowS other [f, g0])) := by
        intro g hg
        rw [mem11] at hg
        rw [← hP]
        by_cases hgg : g = g0
        · subst hgg
          unfold minL
          rw [anyeq, (hokf g n0).mpr (Int.le_refl g)]
          simp
        · rw [decide_eq_false hgg, Bool.false_and]
          cases hm : minL (okRow (b, [u, v]) t) (rowsN 2) [f, g] with
          | false => rfl
          | true =>
            exfalso
            unfold minL at hm
            rw [Bool.and_eq_true, Bool.not_eq_true'] at hm
            obtain ⟨h1, h2⟩ := hm
            have hle := (hokf g hg.1).mp h1
            rw [Bool.eq_false_iff] at h2
            refine h2 (List.any_eq_true.mpr ⟨[f, g0], mem_r2.mpr ⟨f, g0, by omega, by omega, rfl⟩, ?_⟩)
            rw [(hokf g0 n0).mpr (Int.le_refl g0), below2.mpr ⟨Int.le_refl f, hle⟩]
            simp
            omega
      rw [List.filter_map]
      have e2 : (rgI 0 11).filter (Pm ∘ fun g => [f, g]) = (rgI 0 11).filter (fun g => decide (g = g0) && (!(someB b u v t).any fun other => decide (other ≠ [f, g0]) && belowS other [f, g0])) := List.filter_congr e
      rw [e2, filter_one n0 (by omega)]
      split <;> rfl
  have split : ∀ F : Int → List (List Int), (rgI 0 11).flatMap F = (rgI 0 10).flatMap F ++ F 10 := by
    intro F
    rw [show rgI 0 11 = rgI 0 10 ++ [10] by decide +kernel, List.flatMap_append, List.flatMap_singleton]
  rw [rows2, List.filter_flatMap, split, last, List.append_nil, flatMap_eq each]
  unfold leastB
  rw [show someB b u v t = (rgI 0 10).filterMap fun f => (leastS (goneS b u f) v t).map fun g => [f, g] from rfl, fm_filter]
  exact flatMap_eq fun f _ => by cases leastS (goneS b u f) v t <;> rfl
theorem bases_eq {l : Lot} {t : Pr} (h : LawLot l) (ht : t.1 ≤ 9 ∧ t.2 ≤ 9) : basesS l t = greedyS l t := by
  obtain ⟨b, ws⟩ := l
  have hb := h.b
  have hw := h.w
  have hn := h.n
  simp only at hb hw hn
  match ws, hn, hw with
  | [], _, _ => exact bases0
  | [w], _, hw => exact bases1 (by omega) (by have := hw w (by simp); omega) ht
  | [u, v], _, hw => exact bases2 (by omega) (by have := hw u (by simp); omega) (by have := hw v (by simp); omega) ht
  | _ :: _ :: _ :: _, hn, _ => exact absurd hn (by simp only [List.length_cons]; omega)
end Ll
set_option Elab.async false
set_option linter.all false
set_option maxRecDepth 100000
set_option maxHeartbeats 4000000
namespace Xv
open PySem PySem.Spec PyProof.Rows L2 Pv
section
variable {m : Mode} {Y : Fam} {Γ : Ctx} {i j k : m.ι} {a b : Expr} {x : Sv} {ds : List PD} {rest : List Stmt} {p : Pos} {Φ : Out m.ι → Prop}
/-- a, b = e, a new list -/
theorem q_par2l {s1 s2 : Str} {q1 q2 : Nat} {px py pt pt2 : Pos} (n1 n2 : Nat) (ha : X m Y Γ i a x j) (hb : XL m Y Γ j b ds k) (kk : S m Y ((Γ.set n1 (.v x)).set n2 (.l ds)) k rest Φ) (hi : Y.N[n1]? = some s1 := by rfl) (hj : Y.N[n2]? = some s2 := by rfl) (hij : n1 ≠ n2 := by decide)
    (hx : Y.sc.names.lookup s1 = some .local := by rfl) (hy : Y.sc.names.lookup s2 = some .local := by rfl) (hs1 : Se Y a [b] := by intro _; rfl) (hs2 : Se Y b [] := by intro _; rfl)
    (hw : ∀ c, swappedStores [.Tuple [.Name s1 px, .Name s2 py] q1 pt] (.Tuple [a, b] q2 pt2) (Y.X c).env = pure (some [s1, s2]) := by intro _; rfl)
    (hs : ∀ c, swapsWithSole [.Tuple [.Name s1 px, .Name s2 py] q1 pt] (.Tuple [a, b] q2 pt2) p.line (Y.X c).env = pure false := by intro _; rfl) :
    S m Y Γ i (.Assign [.Tuple [.Name s1 px, .Name s2 py] q1 pt] (.Tuple [a, b] q2 pt2) p :: rest) Φ := fun W0 σ W D A r q =>
  s_par2G (P := fun U vs T => ∃ v qa T1, vs = [v, .ref qa] ∧ Le m.M U T1 ∧ m.R j T1 ∧ Is Y.K T1.F v x ∧ T1.H qa = none ∧ Le m.M T1 T ∧ OwnL Y.K T qa ds)
    (fun U l r1 Q z => ⟨_, fun c => pa_cons (wE_ok c) (pa_cons (wE_ok c) pa_nil (hs2 c)) (hs1 c), ha W0 σ W A U l r1 _ fun v T1 l1 r2 hv => hb W0 σ W A T1 (l.trans l1) r2 _ fun v2 T2 l2 r3 hv2 => by
      obtain ⟨qa, us, e1, e2, e3, e4, e5⟩ := hv2
      subst e1
      exact z _ T2 (l1.trans l2) r3 ⟨v, qa, T1, rfl, l1, r2, hv, e2, l2, e3, us, e4, e5⟩⟩)
    r hi hj hij hx hy (fun vs T l r1 h => by
      obtain ⟨v, qa, T1, rfl, l1, r2, h1, h2, l2, h4⟩ := h
      exact ⟨v, .ref qa, rfl, kk W0 _ T D (((A.go l1).setv (n := n1) (x := x) h1).setl l2 h2 (m.nm r2 h2) h4) r1 (Hds.fl q l.fl)⟩) hw hs
/-- the same where the names are cells: by a tuple -/
theorem q_par2c {s1 s2 : Str} {q1 q2 : Nat} {px py pt pt2 : Pos} (n1 n2 : Nat) (ha : X m Y Γ i a x j) (hb : XL m Y Γ j b ds k) (kk : S m Y ((Γ.set n1 (.v x)).set n2 (.l ds)) k rest Φ) (hi : Y.N[n1]? = some s1 := by rfl) (hj : Y.N[n2]? = some s2 := by rfl)
    (hx : locB Y.sc s1 = true := by rfl) (hy : locB Y.sc s2 = true := by rfl) (hf : ∀ a, (Y.X a).fn s1 = true ∨ (Y.X a).env.scope.names.lookup s1 = some .local := by intro _; first | exact .inl rfl | exact .inr rfl) (hf2 : ∀ a, (Y.X a).fn s2 = true ∨ (Y.X a).env.scope.names.lookup s2 = some .local := by intro _; first | exact .inl rfl | exact .inr rfl) (hs1 : Se Y a [b] := by intro _; rfl) (hs2 : Se Y b [] := by intro _; rfl)
    (hw : ∀ c, swappedStores [.Tuple [.Name s1 px, .Name s2 py] q1 pt] (.Tuple [a, b] q2 pt2) (Y.X c).env = pure none := by intro _; rfl)
    (hs : ∀ c, swapsWithSole [.Tuple [.Name s1 px, .Name s2 py] q1 pt] (.Tuple [a, b] q2 pt2) p.line (Y.X c).env = pure false := by intro _; rfl)
    (h1 : ∀ c, (assignEach [.Tuple [.Name s1 px, .Name s2 py] q1 pt] (Y.X c).env).map (·.2) = [assign (.Tuple [.Name s1 px, .Name s2 py] q1 pt) (Y.X c).env] := by intro _; rfl)
    (hn : ∀ c, (assignEach [.Name s1 px, .Name s2 py] (Y.X c).env).length = 2 := by intro _; rfl) (hst : ∀ c, (assignEach [.Name s1 px, .Name s2 py] (Y.X c).env).findIdx? (·.1) = none := by intro _; rfl)
    (g1 : ∀ c, (assignEach [.Name s1 px, .Name s2 py] (Y.X c).env).map (·.2) = assign (.Name s1 px) (Y.X c).env :: (assignEach [.Name s2 py] (Y.X c).env).map (·.2) := by intro _; rfl)
    (g2 : ∀ c, (assignEach [.Name s2 py] (Y.X c).env).map (·.2) = assign (.Name s2 py) (Y.X c).env :: (assignEach [] (Y.X c).env).map (·.2) := by intro _; rfl) :
    S m Y Γ i (.Assign [.Tuple [.Name s1 px, .Name s2 py] q1 pt] (.Tuple [a, b] q2 pt2) p :: rest) Φ := fun W0 σ W D A r q =>
  s_asg (P := fun U v T => ∃ pt v1 qa T1, v = .ref pt ∧ SqT Y.K T.H pt [v1, .ref qa] ∧ Le m.M U T1 ∧ m.R j T1 ∧ Is Y.K T1.F v1 x ∧ T1.H qa = none ∧ Le m.M T1 T ∧ OwnL Y.K T qa ds)
    (fun U l r1 Q z => ⟨_, fun c => pe_tup (pa_cons (wE_ok c) (pa_cons (wE_ok c) pa_nil (hs2 c)) (hs1 c)), ha W0 σ W A U l r1 _ fun v1 T1 l1 r2 hv => hb W0 σ W A T1 (l.trans l1) r2 _ fun v2 T2 l2 r3 hv2 => by
      obtain ⟨qa, us, e1, e2, e3, e4, e5⟩ := hv2
      subst e1
      refine ⟨small5 (Nat.le_of_ble_eq_true rfl), fun p hp => ?_⟩
      exact z (.ref p) (T2.own p _ hp) ((l1.trans l2).trans (Le.own hp)) (m.le0 r3 (Le.own hp)) ⟨p, v1, qa, T1, rfl, SqT.of upd_same, l1, r2, hv, e2, l2.trans (Le.own hp), OwnL.le (M := M0) ⟨e3, us, e4, e5⟩ (Le.own hp) (fun z => z)⟩⟩)
    r (fun v T l r1 h => by
      obtain ⟨pt, v1, qa, T1, rfl, sq, l1, r2, h1, h2, l2, h4⟩ := h
      exact g_tup rfl sq (gs_cons (g_n n1 (gs_cons (g_n n2 (gs_nil (kk W0 _ T D (((A.go l1).setv (n := n1) (x := x) h1).setl l2 h2 (m.nm r2 h2) h4) r1 (Hds.fl q l.fl))) hj hy hf2) g2) hi hx hf) g1) rfl hn hst) hs hw h1
theorem X.toL {e : Expr} (h : XL m Y Γ i e ds j) (q : j = k) : XL m Y Γ i e ds k := q ▸ h
end
end Xv
set_option Elab.async false
set_option linter.all false
set_option maxRecDepth 100000
set_option maxHeartbeats 8000000
namespace Ll
open PySem PySem.Spec PyProof.Rows L2 Pv Xv
theorem alike_rows : ∀ {a b : List Int}, a.length = b.length → PySem.W.alikeAll (a.map .int) (b.map .int) = true
  | [], b, _ => by rw [List.map_nil, PySem.W.alikeAll]
  | x :: a, [], h => by simp at h
  | x :: a, y :: b, h => by
    rw [List.map_cons, List.map_cons, PySem.W.alikeAll, alike_rows (a := a) (b := b) (by simpa using h)]
    rfl
theorem srt_rows : ∀ n, SD.Srt ((rowsN n).map rowI)
  | 0 => .inl (by decide)
  | n + 1 => .inr ⟨fun d hd d' hd' => by
      obtain ⟨a, ha, rfl⟩ := List.mem_map.mp hd
      obtain ⟨b, hb, rfl⟩ := List.mem_map.mp hd'
      have := alike_rows (a := a) (b := b) (by rw [rowsN_len _ a ha, rowsN_len _ b hb])
      show PySem.W.alike (.tuple (a.map .int)) (.tuple (b.map .int)) = true
      rw [PySem.W.alike]
      exact this, .inl fun d hd => by
      obtain ⟨a, ha, rfl⟩ := List.mem_map.mp hd
      have hl := rowsN_len _ a ha
      cases a with
      | nil => simp at hl
      | cons x a => exact ⟨.int x, a.map .int, rfl⟩⟩
theorem sort_rows : ∀ n, n ≤ 2 → SD.sortD ((rowsN n).map rowI) = (rowsN n).map rowI := by
  intro n hn
  unfold SD.sortD
  apply List.mergeSort_of_pairwise
  have : n = 0 ∨ n = 1 ∨ n = 2 := by omega
  rcases this with rfl | rfl | rfl <;> decide +kernel
theorem row_depth (r : List Int) : (rowI r).depth ≤ 50 := by
  have := (shp_tup (k := 0) (ds := r.map PyData.int) (shp_map shp_int)).2
  show (PyData.tuple (r.map .int)).depth ≤ 50
  omega
theorem rowsN_b : ∀ n, ∀ r ∈ rowsN n, ∀ x ∈ r, 0 ≤ x ∧ x ≤ 10
  | 0, r, h, x, hx => by
    unfold rowsN at h
    rw [List.mem_singleton.mp h] at hx
    cases hx
  | n + 1, r, h, x, hx => by
    unfold rowsN at h
    rw [List.mem_flatMap] at h
    obtain ⟨q, hq, h⟩ := h
    rw [List.mem_map] at h
    obtain ⟨k, hk, rfl⟩ := h
    rcases List.mem_append.mp hx with h | h
    · exact rowsN_b n q hq x h
    · rw [List.mem_singleton.mp h]
      have := mem11.mp hk
      omega
theorem rowsN_n : ∀ n, n ≤ 2 → (rowsN n).length ≤ 121 := by
  intro n hn
  have : n = 0 ∨ n = 1 ∨ n = 2 := by omega
  rcases this with rfl | rfl | rfl <;> decide +kernel
theorem foldl_sub (ok : List Int → Bool) : ∀ (L F : List (List Int)), (∀ r ∈ L.foldl (gStep ok) F, r ∈ F ∨ r ∈ L) ∧ (L.foldl (gStep ok) F).length ≤ F.length + L.length
  | [], F => ⟨fun r h => .inl h, by simp⟩
  | a :: L, F => by
    obtain ⟨i1, i2⟩ := foldl_sub ok L (gStep ok F a)
    rw [List.foldl_cons]
    refine ⟨fun r h => ?_, ?_⟩
    · rcases i1 r h with h | h
      · unfold gStep at h
        split at h
        · rcases List.mem_append.mp h with h | h
          · exact .inl h
          · exact .inr (by rw [List.mem_singleton.mp h]; simp)
        · exact .inl h
      · exact .inr (by simp [h])
    · have : (gStep ok F a).length ≤ F.length + 1 := by
        unfold gStep
        split
        · simp
        · omega
      rw [List.length_cons]
      omega
theorem nc_rows {l : Lot} {t : Pr} (hn : l.2.length ≤ 2) : Nc (.tuple ((greedyS l t).map rowI)) := by
  obtain ⟨h1, h2⟩ := foldl_sub (okRow l t) (rowsN l.2.length) []
  have h3 := rowsN_n l.2.length hn
  refine (nz_tup (k := 1) (n := 100) (N := 20000) (fun d hd => ?_) ?_).mono (by decide) (by decide)
  · obtain ⟨r, hr, rfl⟩ := List.mem_map.mp hd
    have hr' : r ∈ rowsN l.2.length := by
      rcases h1 r hr with h | h
      · cases h
      · exact h
    refine nz_tup (k := 0) (n := 40) (N := 100) (fun d hd => ?_) ?_
    · obtain ⟨x, hx, rfl⟩ := List.mem_map.mp hd
      exact nz_int (by have := rowsN_b _ r hr' x hx; omega)
    · rw [List.length_map, rowsN_len _ r hr']
      omega
  · rw [List.length_map]
    simp only [List.length_nil] at h2
    have : (greedyS l t).length ≤ 121 := by
      unfold greedyS
      omega
    omega
end Ll
namespace K39
open PySem PySem.Spec PyProof.Rows L2 Pv Xv Ll
section
variable {P : Program} {w : World} {K : PySem.W.Frag} {mg : Str → Option Value} {base : Heap} {T : List (Addr × Str)}
theorem fn_are_bases (hm : Md K mg) (L : Lm K mg base T "_law_are_bases" s__law_are_bases "_law_are_bases.<locals>.<lambda>") : Cl P w K mg base 10 "_law_are_bases" s__law_are_bases ["bag", "lot"] (bagSp K T okLot trueR) := by
  have CI := fn_is (P := P) (w := w) (base := base) hm 7
  have CD := fn_draw (P := P) (w := w) (base := base) hm
  have CT := fn_total (P := P) (w := w) (base := base) hm
  have CB := fn_let_bases (P := P) (w := w) (base := base) hm
  refine .ofL L (fun _ _ _ _ _ _ us hl => match us, hl with | [_, _], _ => rfl) fun f fd Pt c F hcode TB hTm hTu => fnB F sc__law_are_bases (by rintro _ _ ⟨_, rfl, _⟩; rfl) ?_
  rintro cdv hcdv A outer s H hr B C b xs ⟨⟨bs, ws⟩, rfl, hL⟩ bok
  have LY := lamY_d (P := P) (w := w) (K := K) (N := N__law_are_bases) (nd := sc__law_are_bases.nd) (x := "_law_are_bases") (sc := defScope s__law_are_bases) (f := f) (cdv := cdv) (A := A) (outer := outer) (s := s) (H := H) (k := 9) (hr := hr) (T := T) (hcdv.symm.trans hcode) TB hTm hTu
  have hn : ws.length ≤ 2 := hL.n
  have hw : ∀ v ∈ ws, WOk v := hL.ok.w
  have lok : LOk (bs, ws) := hL.ok
  obtain ⟨o1, a1, a2⟩ := dr_ok (below := 10) bok (by decide)
  obtain ⟨o2, b1, b2⟩ := dr_ok (below := 10) o1 (by decide)
  refine q_asg x_v (xg_tup (ds := [prI bs, waysD ws]) (xgs_cons (xg_2 (d := .int bs.1) (d2 := .int bs.2) 2 3) (xgs_cons (xg_n 4) xgs_nil))) ?_
  refine q_par2c 5 6 (x := .d (prI ((dr b 10).1, (dr (dr b 10).2 10).1))) (ds := []) (x_tup (d_cons (x_draw CD x_int (by decide) (by decide)) (d_cons (x_draw CD x_int (by decide) (by decide)) d_nil))) (xl_lst d_nil) ?_
  generalize hz1 : (dr b 10).1 = t1 at *
  generalize hz2 : (dr (dr b 10).2 10).1 = t2 at *
  generalize hz3 : (dr (dr b 10).2 10).2 = b2 at *
  refine q_setl 7 (xl_lst (d_cons (x_tup d_nil) d_nil)) ?_
  refine q_for (fun done Γ (_ : Bag) => ∃ s8 s9 s10 : Sl, Γ = [.at_ B, .v (.d (lotD (bs, ws))), .v (.d (.int bs.1)), .v (.d (.int bs.2)), .v (.d (waysD ws)), .v (.d (prI (t1, t2))), .l [], .l ((rowsN done.length).map rowI), s8, s9, s10, .no, .no, .no, .no, .no, .no])
    (i_tup (xs := ws) (enc := prI) x_v) ⟨_, _, _, rfl⟩ ?_ ?_
  · rintro done v todo _ c' hx ⟨s8, s9, s10, rfl⟩
    have hdn : done.length ≤ 1 := by
      have := congrArg List.length hx
      rw [List.length_append, List.length_cons] at this
      omega
    have rn := rowsN_n done.length (by omega)
    have rn2 := rowsN_n (done.length + 1) (by omega)
    refine ⟨_, _, xg_n 8, ?_⟩
    refine q_setl 9 (xl_lst d_nil) ?_
    refine q_ice 7 rfl ?_
    refine q_for (fun dn Γ (_ : Bag) => ∃ (s10 : Sl) (ls : List (List Int)), Γ = [.at_ B, .v (.d (lotD (bs, ws))), .v (.d (.int bs.1)), .v (.d (.int bs.2)), .v (.d (waysD ws)), .v (.d (prI (t1, t2))), .l [], .v (.d (.list ((rowsN done.length).map rowI))), .v (.d (prI v)), .l (ls.map rowI), s10, .no, .no, .no, .no, .no, .no] ∧ ls = (dn.flatMap fun r => (rgI 0 11).map fun k => r ++ [k]) ∧ ls.length ≤ 11 * dn.length)
      (i_lst (xs := rowsN done.length) (enc := rowI) x_v) ⟨_, [], rfl, rfl, by simp⟩ ?_ ?_
    · rintro dn r td _ c2 hx2 ⟨s10, ls, rfl, he, hl⟩
      have hdn2 : dn.length ≤ 121 := by
        have := congrArg List.length hx2
        rw [List.length_append] at this
        omega
      have hrl := rowsN_len done.length r (by rw [hx2]; simp)
      refine ⟨_, _, xg_n 10, ?_⟩
      refine q_extend 9 (es' := ((rgI 0 11).map fun k => rowI (r ++ [k]))) (xl_lcM [("k", 11)] (fun k => rowI (r ++ [k])) (i_rg1 (q := 11) (bi hm) x_int (by omega)) (by rw [rgI_len]; exact Nat.le_of_ble_eq_true rfl) (fun k _ => turn_m (xg_n 11) (.is (x_catT (ds := r.map .int) x_v (x_tup (d_cons x_v d_nil)) (by rw [List.length_map, hrl]; simp only [List.length_cons, List.length_nil]; omega)) (by unfold rowI; rw [List.map_append]; rfl)))) rfl (by rw [List.length_map, List.length_map, rgI_len]; omega) ?_
      refine q_nil ⟨.v (.d (rowI r)), ls ++ (rgI 0 11).map fun k => r ++ [k], ?_, ?_, ?_⟩
      · rw [List.map_append, List.map_map]
        rfl
      · rw [List.flatMap_append, ← he]
        simp
      · rw [List.length_append, List.length_append, List.length_map, rgI_len]
        simp only [List.length_cons, List.length_nil]
        omega
    · rintro _ c2 ⟨s10, ls, rfl, he, hl⟩
      refine q_setl 7 (xl_listR (bi hm) xr_v) ?_
      refine q_nil ⟨.v (.d (prI v)), .l (ls.map rowI), s10, ?_⟩
      rw [List.length_append]
      show (_ : Xv.Ctx) = [.at_ B, .v (.d (lotD (bs, ws))), .v (.d (.int bs.1)), .v (.d (.int bs.2)), .v (.d (waysD ws)), .v (.d (prI (t1, t2))), .l [], .l ((rowsN (done.length + 1)).map rowI), _, _, _, .no, .no, .no, .no, .no, .no]
      rw [show rowsN (done.length + 1) = ls from he.symm]
      rfl
  rintro _ c1 ⟨s8, s9, s10, rfl⟩
  have rn := rowsN_n ws.length hn
  refine q_for (fun done Γ (_ : Bag) => ∃ s10 s12 : Sl, Γ = [.at_ B, .v (.d (lotD (bs, ws))), .v (.d (.int bs.1)), .v (.d (.int bs.2)), .v (.d (waysD ws)), .v (.d (prI (t1, t2))), .l ((done.foldl (gStep (okRow (bs, ws) (t1, t2))) []).map rowI), .l ((rowsN ws.length).map rowI), s8, s9, s10, .no, s12, .no, .no, .no, .no])
    (i_lst (xs := rowsN ws.length) (enc := rowI) (.is (XL.cold (xl_sortD (bi hm) xr_v (srt_rows _) (fun d hd => by obtain ⟨r, _, rfl⟩ := List.mem_map.mp hd; exact row_depth r))) (by rw [sort_rows _ hn]))) ⟨_, _, rfl⟩ ?_ ?_
  · rintro done row todo _ c' hx ⟨s10, s12, rfl⟩
    obtain ⟨_, hfl⟩ := foldl_sub (okRow (bs, ws) (t1, t2)) done []
    have hdn : done.length ≤ 121 := by
      have := congrArg List.length hx
      rw [List.length_append] at this
      omega
    have hrl := rowsN_len ws.length row (by rw [hx]; simp)
    simp only [List.length_nil] at hfl
    have hst : (done ++ [row]).foldl (gStep (okRow (bs, ws) (t1, t2))) [] = gStep (okRow (bs, ws) (t1, t2)) (done.foldl (gStep (okRow (bs, ws) (t1, t2))) []) row := by
      rw [List.foldl_append]
      rfl
    rw [hst]
    generalize done.foldl (gStep (okRow (bs, ws) (t1, t2))) [] = fs at hfl
    refine ⟨_, _, xg_n 10, ?_⟩
    refine q_set 12 (x_call CT (a_cons x_v (a_cons x_v a_nil)) ⟨_, row, ws, rfl, .inr rfl, hw, rfl⟩) ?_
    refine q_when (u := okRow (bs, ws) (t1, t2) row) (t_w (w_and (c'_ge (x_add x_v (x_ixt x_v x_int rfl)) (x_ixt x_v x_int rfl)).tst (fun _ => w_and1 (c'_ge (x_add x_v (x_ixt x_v x_int rfl)) (x_ixt x_v x_int rfl)).tst))) (fun h => ?_) (fun h => ?_)
    · refine q_when (t_not (t_val (x_anyM (q := fun far => belowS far row) (bi hm) (xl_lcO [("far", 15)] (enc := rowI) (fun far => .bool (belowS far row)) xr_v (by omega) (fun far hf => turn_m (xg_n 15) (x_allM (q := fun r : Int × Int => decide (r.1 ≤ r.2)) (bi hm) (xl_lcM [("a", 13), ("b", 14)] (fun r : Int × Int => .bool (decide (r.1 ≤ r.2))) (i_lst (xs := far.zip row) (enc := fun r => .tuple [.int r.1, .int r.2]) (XL.cold (xl_listZipE (xs := far) (ys := row) (f := .int) (g := .int) (bi hm) (bi hm) (X.qt x_v) (X.qt x_v)))) (by rw [List.length_zip]; omega) (fun r _ => turn_m (xg_2 13 14) (c'_leq x_v x_v).val)))))))) (fun h2 => ?_) (fun h2 => ?_)
      · refine q_append 6 x_v rfl (by rw [List.length_map]; omega) ?_
        refine q_nil (q_nil (q_nil ⟨.v (.d (rowI row)), .v (.d (prI (totalS row ws))), ?_⟩))
        have e : gStep (okRow (bs, ws) (t1, t2)) fs row = fs ++ [row] := by
          unfold gStep
          rw [if_pos (by rw [h, h2]; rfl)]
        rw [e, List.map_append]
        rfl
      · refine q_nil (q_nil ⟨.v (.d (rowI row)), .v (.d (prI (totalS row ws))), ?_⟩)
        have e : gStep (okRow (bs, ws) (t1, t2)) fs row = fs := by
          unfold gStep
          rw [if_neg (by rw [h, h2]; exact Bool.noConfusion)]
        rw [e]
        rfl
    · refine q_nil ⟨.v (.d (rowI row)), .v (.d (prI (totalS row ws))), ?_⟩
      have e : gStep (okRow (bs, ws) (t1, t2)) fs row = fs := by
        unfold gStep
        rw [if_neg (by rw [h]; exact Bool.noConfusion)]
      rw [e]
      rfl
  rintro _ c3 ⟨s10', s12, rfl⟩
  have he := bases_eq (t := (t1, t2)) hL ⟨by simp only; omega, by simp only; omega⟩
  have hnc := nc_rows (l := (bs, ws)) (t := (t1, t2)) hn
  refine q_set 16 (x_tupR (bi hm) xr_v) ?_
  exact q_ret (x_is () CI LY (d := .tuple ((greedyS (bs, ws) (t1, t2)).map rowI)) x_v hnc
    (fun f c' cl => .is (x_call CB (a_cons x_v (a_cons x_v a_nil)) ⟨(bs, ws), (t1, t2), rfl, lok, rfl⟩) (by rw [he]))
    (fun f c' cl => .is (x_callK CB kw_let_bases (kw_cons x_v (kw_cons x_v kw_nil)) ⟨(bs, ws), (t1, t2), rfl, lok, rfl⟩) (by rw [he]))) ⟨_, _, rfl, rfl⟩
end
end K39
set_option Elab.async false
set_option linter.all false
set_option maxRecDepth 100000
set_option maxHeartbeats 8000000
namespace Ll
open PySem PySem.Spec PyProof.Rows L2 Pv Xv
theorem cutToD (ds : List PD) (k : Nat) : Pv.cutD ds none (some (k : Int)) = ds.take k := by
  have e1 : HT.sIx ds.length 0 none = 0 := by simp [HT.sIx]
  unfold Pv.cutD
  rw [e1, List.drop_zero, Nat.sub_zero]
  have e2 : HT.sIx ds.length ds.length (some (k : Int)) = min k ds.length := by
    simp [HT.sIx]
    omega
  rw [e2]
  rcases Nat.le_total k ds.length with h | h
  · rw [Nat.min_eq_left h]
  · rw [Nat.min_eq_right h, List.take_length, List.take_of_length_le h]
def anyL (ls : List Lot) (st : Pr) : Bool := ls.any fun l => inL l st
theorem anyL_eq {ls : List Lot} {st : Pr} (h : ∀ l ∈ ls, LOk l) : anyL ls st = inLotsS ls st := by
  unfold anyL inLotsS
  rw [Bool.eq_iff_iff, List.any_eq_true, List.any_eq_true]
  constructor
  · rintro ⟨l, hl, e⟩
    exact ⟨l, hl, by rw [← inL_eq (h l hl)]; exact e⟩
  · rintro ⟨l, hl, e⟩
    exact ⟨l, hl, by rw [inL_eq (h l hl)]; exact e⟩
theorem zip_filter {α : Type} (p : α → Bool) (xs : List α) : (xs.zipIdx.filter fun r => p r.1).map (·.1) = xs.filter p := by
  have h : xs.zipIdx.map (·.1) = xs := List.zipIdx_map_fst 0 xs
  have e := List.filter_map (f := fun r : α × Nat => r.1) (p := p) (l := xs.zipIdx)
  rw [h] at e
  rw [e]
  rfl
theorem apart_none {ls : List Lot} {t : Int} : apartS ls (ls.reverse ++ ls) t = none := by
  unfold apartS
  rw [List.find?_eq_none]
  intro s _
  have e : inLotsS (ls.reverse ++ ls) s = inLotsS ls s := by
    unfold inLotsS
    rw [List.any_append, List.any_reverse, Bool.or_self]
  rw [e]
  simp
theorem grid_100 {t : Int} (h0 : 0 ≤ t) (h1 : t ≤ 9) : (gridS t).length ≤ 100 ∧ 0 < (gridS t).length := by
  have e : (gridS t).length = (t + 1).toNat * (t + 1).toNat := by
    unfold gridS
    rw [List.length_flatMap]
    simp only [List.length_map, rgI_len]
    rw [List.map_const', List.sum_replicate_nat, rgI_len]
  rw [e]
  exact ⟨Nat.le_trans (Nat.mul_le_mul (show (t + 1).toNat ≤ 10 by omega) (show (t + 1).toNat ≤ 10 by omega)) (by decide), Nat.mul_pos (by omega) (by omega)⟩
theorem nz_pr {p : Pr} (h1 : p.1.natAbs < 10 ^ 12) (h2 : p.2.natAbs < 10 ^ 12) : Nz 1 100 (prI p) := nz_tup (k := 0) (n := 40) (nz_cons (nz_int h1) (nz_cons (nz_int h2) nz_nil)) (by simp)
theorem nc_prs {ps : List Pr} (h : ∀ p ∈ ps, p.1.natAbs < 10 ^ 12 ∧ p.2.natAbs < 10 ^ 12) (hl : ps.length ≤ 1000) : Nc (.tuple (ps.map prI)) :=
  (nz_tup (k := 1) (n := 100) (N := 101000) (fun d hd => by
    obtain ⟨p, hp, rfl⟩ := List.mem_map.mp hd
    exact nz_pr (h p hp).1 (h p hp).2) (by rw [List.length_map]; omega)).mono (by decide) (by decide)
theorem shp_prs (ps : List Pr) : SeqAt.shaped (.list (ps.map prI)) = true := (shp_list (k := 1) (shp_map fun p : Pr => shp_tup (k := 0) (shp_cons (shp_int p.1) (shp_cons (shp_int p.2) shp_nil)))).ok
end Ll
namespace K39
open PySem PySem.Spec PyProof.Rows L2 Pv Xv Ll
section
variable {P : Program} {w : World} {K : PySem.W.Frag} {mg : Str → Option Value} {base : Heap} {T : List (Addr × Str)}
def okSt : List Sv → Bag → Prop := fun xs _ => ∃ ls os, xs = [.d (lotsD ls), .d (lotsD os)] ∧ (∀ l ∈ ls, LawLot l) ∧ (∀ l ∈ os, LawLot l) ∧ ls.length ≤ 10 ∧ os.length ≤ 10
theorem fn_are_states (hm : Md K mg) (L : Lm K mg base T "_law_are_states" s__law_are_states "_law_are_states.<locals>.<lambda>") : Cl P w K mg base 10 "_law_are_states" s__law_are_states ["bag", "lots", "others"] (bagSp K T okSt trueR) := by
  have CI := fn_is (P := P) (w := w) (base := base) hm 7
  have CD := fn_draw (P := P) (w := w) (base := base) hm
  have CL := fn_is_inL (P := P) (w := w) (base := base) hm
  have CS := fn_lot_states (P := P) (w := w) (base := base) hm
  have CN := fn_is_in_lots (P := P) (w := w) (base := base) hm
  have CA := fn_first_apart_state (P := P) (w := w) (base := base) hm
  refine .ofL L (fun _ _ _ _ _ _ us hl => match us, hl with | [_, _, _], _ => rfl) fun f fd Pt c F hcode TB hTm hTu => fnB F sc__law_are_states (by rintro _ _ ⟨_, _, rfl, _⟩; rfl) ?_
  rintro cdv hcdv A outer s H hr B C b xs ⟨ls, os, rfl, hL, hO, nL, nO⟩ bok
  have LY := lamY_d (P := P) (w := w) (K := K) (N := N__law_are_states) (nd := sc__law_are_states.nd) (x := "_law_are_states") (sc := defScope s__law_are_states) (f := f) (cdv := cdv) (A := A) (outer := outer) (s := s) (H := H) (k := 9) (hr := hr) (T := T) (hcdv.symm.trans hcode) TB hTm hTu
  have kL : ∀ l ∈ ls, LOk l := fun l hl => (hL l hl).ok
  have kO : ∀ l ∈ os, LOk l := fun l hl => (hO l hl).ok
  obtain ⟨o1, a1, a2⟩ := dr_ok (below := 10) bok (by decide)
  refine q_set 3 (x_draw CD x_int (by decide) (by decide)) ?_
  generalize (dr b 10).1 = t at *
  generalize (dr b 10).2 = b1 at *
  have t9 : t ≤ 9 := by omega
  obtain ⟨g100, g0⟩ := grid_100 a1 t9
  have gb := grid_b a1 (show t ≤ 100 by omega)
  have gP : ∀ st ∈ gridS t, PB (10 ^ 8) st := fun st h => by
    have := gb st h
    exact ⟨by omega, by omega⟩
  refine q_setl 4 (xl_lst d_nil) ?_
  refine q_for (fun done Γ (_ : Bag) => ∃ (s1 : Sl) (ps : List Pr), Γ = [.at_ B, .v (.d (lotsD ls)), .v (.d (lotsD os)), .v (.d (.int t)), .l (ps.map prI), s1, .no, .no, .no, .no, .no, .no, .no, .no, .no] ∧ ps = (done.flatMap fun x => (rgI 0 (t + 1).toNat).map fun y => (x, y)) ∧ ps.length ≤ 101 * done.length) (i_rg1 (bi hm) (x_add x_v x_int) (by omega)) ⟨.no, [], rfl, rfl, by simp⟩ ?_ ?_
  · rintro done x todo _ c hx ⟨s1, ps, rfl, he, hn⟩
    have hlen : done.length < 101 := by
      have := congrArg List.length hx
      rw [rgI_len, List.length_append, List.length_cons] at this
      omega
    refine ⟨_, _, xg_n 5, ?_⟩
    refine q_extend 4 (es' := ((rgI 0 (t + 1).toNat).map fun y => prI (x, y))) (xl_lcM [("y", 6)] (fun y => prI (x, y)) (i_rg1 (bi hm) (x_add x_v x_int) (by omega)) (by rw [rgI_len]; omega) (fun y _ => turn_m (xg_n 6) (x_tup (d_cons x_v (d_cons x_v d_nil))))) rfl (by rw [List.length_map, List.length_map, rgI_len]; omega) ?_
    refine q_nil ⟨.v (.d (.int x)), ps ++ (rgI 0 (t + 1).toNat).map fun y => (x, y), ?_, ?_, ?_⟩
    · rw [List.map_append, List.map_map]
      rfl
    · rw [List.flatMap_append, ← he]
      simp
    · rw [List.length_append, List.length_append, List.length_map, rgI_len]
      simp only [List.length_cons, List.length_nil]
      omega
  rintro _ c1 ⟨s1, ps, rfl, he, hn⟩
  have hps : ps = gridS t := he
  clear he hn
  subst hps
  refine q_ice 4 rfl ?_
  refine q_for (fun done Γ (_ : Bag) => ∃ s7 s8 : Sl, Γ = [.at_ B, .v (.d (lotsD ls)), .v (.d (lotsD os)), .v (.d (.int t)), .v (.d (.list ((gridS t).map prI))), s1, .no, s7, s8, .no, .no, .no, .no, .no, .no]) (i_tup (xs := ls.take 2) (enc := lotD) (.is (x_sliceT x_v o_none (o_some x_int)) (by rw [show (2 : Int) = ((2 : Nat) : Int) from rfl, cutToD, List.map_take]))) ⟨_, _, rfl⟩ ?_ ?_
  · rintro done l todo _ c2 hx ⟨s7, s8, rfl⟩
    have hl : l ∈ ls := List.mem_of_mem_take (by rw [hx]; simp)
    have lok := kL l hl
    refine ⟨_, _, xg_n 7, ?_⟩
    refine q_set 8 (x_tupR (bi hm) (XL.r (xl_lc [("state", 9)] (fun st => inL l st) prI (i_lst (xs := gridS t) (enc := prI) x_v) (by omega) (fun st hst => turn_1 (xg_n 9) (t_val (x_call CL (a_cons x_v (a_cons x_v a_nil)) ⟨l, st, rfl, lok, gP st hst, rfl⟩)) (fun _ => x_v))))) ?_
    have ef : (gridS t).filter (fun st => inL l st) = lotStatesS l t := List.filter_congr fun st _ => inL_eq lok
    rw [ef]
    have nc : Nc (.tuple ((lotStatesS l t).map prI)) := nc_prs (fun p hp => by
      have := gb p (List.mem_filter.mp hp).1
      omega) (Nat.le_trans (List.length_filter_le _ _) (by omega))
    refine q_when (u := false) (t_not (t_val (x_is () CI LY (d := .tuple ((lotStatesS l t).map prI)) x_v nc
      (fun f c' cl => x_call CS (a_cons x_v (a_cons x_v a_nil)) ⟨l, t, rfl, lok, a1, by omega, rfl⟩)
      (fun f c' cl => x_callK CS kw_lot_states (kw_cons x_v (kw_cons x_v kw_nil)) ⟨l, t, rfl, lok, a1, by omega, rfl⟩)))) (fun h => by cases h) (fun _ => q_nil ⟨_, _, rfl⟩)
  rintro _ c2 ⟨s7, s8, rfl⟩
  have inner : ∀ (own : List Lot) (st : Pr), (∀ l ∈ own, LOk l) → own.length ≤ 10 → st ∈ gridS t → True := fun _ _ _ _ _ => trivial
  refine q_setl 10 (xl_lcM [("own", 11)] (fun own : List Lot => .list ((gridS t).map fun st => .bool (anyL own st))) (i_tup (xs := [ls, os]) (enc := lotsD) (x_tup (d_cons x_v (d_cons x_v d_nil)))) (by simp) (fun own ho => turn_m (xg_n 11) (XL.cold (xl_lcM [("state", 9)] (fun st => .bool (anyL own st)) (i_lst (xs := gridS t) (enc := prI) x_v) (by omega) (fun st hst => turn_m (xg_n 9) (x_anyM (q := fun l => inL l st) (bi hm) (xl_lcM [("lot", 7)] (fun l => .bool (inL l st)) (i_tup (xs := own) (enc := lotD) x_v) ?hol (fun l hl => turn_m (xg_n 7) (x_call CL (a_cons x_v (a_cons x_v a_nil)) ⟨l, st, rfl, ?hok, gP st hst, rfl⟩))))))))) ?_
  case hol =>
    simp only [List.mem_cons, List.not_mem_nil, or_false] at ho
    rcases ho with rfl | rfl <;> omega
  case hok =>
    simp only [List.mem_cons, List.not_mem_nil, or_false] at ho
    rcases ho with rfl | rfl
    · exact kL l hl
    · exact kO l hl
  refine q_bag fun bok2 => ?_
  obtain ⟨o3, d1, d2⟩ := dr_ok (below := (((gridS t).map prI).length : Int)) bok2 (by rw [List.length_map]; omega)
  refine q_set 12 (x_draw CD (x_lenR (bi hm) (X.r x_v)) (by rw [List.length_map]; omega) (by rw [List.length_map]; exact Nat.lt_of_le_of_lt (Nat.log2_le_self _) (by omega))) ?_
  rw [List.length_map] at d1 d2 ⊢
  obtain ⟨n, hn⟩ : ∃ n : Nat, (dr c2 ((gridS t).length : Int)).1 = (n : Int) := ⟨(dr c2 ((gridS t).length : Int)).1.toNat, by omega⟩
  rw [hn] at d1 d2 ⊢
  have hn2 : n < (gridS t).length := by omega
  obtain ⟨st, hst⟩ : ∃ st, (gridS t)[n]? = some st := ⟨(gridS t)[n], by simp [hn2]⟩
  have hsm := List.mem_of_getElem? hst
  refine q_asg (x_tup (d_cons (x_ixr (d := prI st) (X.r x_v) x_v (Pv.atI_nat (by rw [List.getElem?_map, hst]; rfl))) (d_cons (x_ixr (d := .bool (anyL ls st)) (X.r (x_ixr (d := .list ((gridS t).map fun st => .bool (anyL ls st))) xr_v x_int (Pv.atI_nat (k := 0) rfl))) x_v (Pv.atI_nat (by rw [List.getElem?_map, hst]; rfl))) d_nil))) (xg_2 9 8) ?_
  refine q_when (u := false) (t_not (t_val (x_is () CI LY (d := .bool (anyL ls st)) x_v (nz_bl _)
    (fun f c' cl => .is (x_call CN (a_cons x_v (a_cons x_v a_nil)) ⟨ls, st, rfl, kL, by omega, gP st hsm, rfl⟩) (by rw [anyL_eq kL]))
    (fun f c' cl => .is (x_callK CN kw_is_in_lots (kw_cons x_v (kw_cons x_v kw_nil)) ⟨ls, st, rfl, kL, by omega, gP st hsm, rfl⟩) (by rw [anyL_eq kL]))))) (fun h => by cases h) (fun _ => ?_)
  refine q_setlcp 13 [("i", 14), ("own", 11)] (fun r : Pr × Nat => anyL ls r.1 != anyL os r.1) (fun r => prI r.1) (i_enumL (xs := gridS t) (f := prI) (bi hm) x_v) (by rw [List.length_zipIdx]; omega) (fun r hr => turn_1 (xg_2 14 11) (XC.tst (XC.is (c'_ned (d := .bool (anyL ls r.1)) (d' := .bool (anyL os r.1)) (x_ixr (X.r (x_ixr (d := .list ((gridS t).map fun st => .bool (anyL ls st))) xr_v x_int (Pv.atI_nat (k := 0) rfl))) x_v (Pv.atI_nat (by rw [List.getElem?_map, List.mem_zipIdx_iff_getElem?.mp hr]; rfl))) (x_ixr (X.r (x_ixr (d := .list ((gridS t).map fun st => .bool (anyL os st))) xr_v x_int (Pv.atI_nat (k := 1) rfl))) x_v (Pv.atI_nat (by rw [List.getElem?_map, List.mem_zipIdx_iff_getElem?.mp hr]; rfl))) rfl rfl) (by cases anyL ls r.1 <;> cases anyL os r.1 <;> rfl))) (fun _ => x_v)) ?_
  have eA : ((gridS t).zipIdx.filter fun r => anyL ls r.1 != anyL os r.1).map (fun r => prI r.1) = ((gridS t).filter fun st => anyL ls st != anyL os st).map prI := by
    rw [← zip_filter (fun st => anyL ls st != anyL os st), List.map_map]
    rfl
  rw [eA]
  have eF : ((gridS t).filter fun st => anyL ls st != anyL os st).head? = apartS ls os t := by
    rw [List.head?_filter]
    unfold apartS
    congr 1
    funext st
    rw [anyL_eq kL, anyL_eq kO]
  have fm : ∀ p ∈ (gridS t).filter (fun st => anyL ls st != anyL os st), p ∈ gridS t := fun p hp => (List.mem_filter.mp hp).1
  generalize (gridS t).filter (fun st => anyL ls st != anyL os st) = ap at eF fm
  have nco : Nc (optP (apartS ls os t)) := by
    rw [← eF]
    cases ap with
    | nil => exact nz_non
    | cons p r =>
      have := gb p (fm p (by simp))
      exact (nz_pr (p := p) (by omega) (by omega)).mono (by decide) (by decide)
  refine q_set 8 (x := .d (optP (apartS ls os t))) (x_if (XT.is (XC.tst (c'_neR xr_v (xl_lst d_nil).cold (shp_prs ap) rfl)) (not_nil_l _)) (fun h => ?_) (fun h => ?_)) ?_
  · cases ap with
    | nil => cases h
    | cons p r =>
      rw [← eF]
      exact x_ixr xr_v x_int (Pv.atI_nat (k := 0) rfl)
  · cases ap with
    | cons p r => cases h
    | nil =>
      rw [← eF]
      exact x_non
  refine q_when (u := false) (t_not (t_val (x_is () CI LY (d := optP (apartS ls os t)) x_v nco
    (fun f c' cl => x_call CA (a_cons x_v (a_cons x_v (a_cons x_v a_nil))) ⟨ls, os, t, rfl, kL, by omega, kO, by omega, a1, by omega, rfl⟩)
    (fun f c' cl => x_callK CA kw_first_apart_state (kw_cons x_v (kw_cons x_v (kw_cons x_v kw_nil))) ⟨ls, os, t, rfl, kL, by omega, kO, by omega, a1, by omega, rfl⟩)))) (fun h => by cases h) (fun _ => ?_)
  refine q_ret (x := .d (.bool true)) (.is (XC.val (c'_isN (x_call CA (a_cons x_v (a_cons (.is (x_catT (x_revT x_v) x_v (by rw [List.length_reverse, List.length_map]; omega)) (show _ = Sv.d (lotsD (ls.reverse ++ ls)) by unfold lotsD; rw [List.map_append, List.map_reverse])) (a_cons x_v a_nil))) ⟨ls, ls.reverse ++ ls, t, rfl, kL, by omega, (fun l hl => kL l (by rcases List.mem_append.mp hl with h | h; exact List.mem_reverse.mp h; exact h)), by rw [List.length_append, List.length_reverse]; omega, a1, by omega, rfl⟩))) (by rw [apart_none]; rfl)) ⟨_, _, rfl, rfl⟩
end
end K39
set_option Elab.async false
set_option linter.all false
set_option maxRecDepth 100000
set_option maxHeartbeats 8000000
namespace Ll
open PySem PySem.Spec PyProof.Rows L2 Pv Xv
def lotJ (b : Bag) : Nat → Bag
  | 0 => b
  | k + 1 => (lotF (lotJ b k)).2
def lotsF (b : Bag) (n : Nat) : List Lot := (List.range n).map fun k => (lotF (lotJ b k)).1
theorem lotJ_ok {b : Bag} (h : BagOk b) : ∀ k, BagOk (lotJ b k)
  | 0 => h
  | k + 1 => (lotF_ok (lotJ_ok h k)).1
theorem lotsF_ok {b : Bag} (h : BagOk b) {n : Nat} : ∀ l ∈ lotsF b n, LawLot l := by
  intro l hl
  unfold lotsF at hl
  rw [List.mem_map] at hl
  obtain ⟨k, _, rfl⟩ := hl
  exact (lotF_ok (lotJ_ok h k)).2
theorem lotsF_len {b : Bag} {n : Nat} : (lotsF b n).length = n := by simp [lotsF]
theorem lotsF_val (b : Bag) (n : Nat) : ((List.range n).filter fun _ => true).map (fun k => lotD (lotF (lotJ b k)).1) = (lotsF b n).map lotD := by
  unfold lotsF
  rw [List.map_map, List.filter_eq_self.mpr fun _ _ => rfl]
  rfl
theorem nz_lot {l : Lot} (h : LawLot l) : Nz 3 1000 (lotD l) := by
  have hb := h.b
  have hw := h.w
  have hn := h.n
  have b1 : Nz 2 300 (prI l.1) := (nz_pr (by omega) (by omega)).mono (by decide) (by decide)
  have b2 : Nz 2 300 (waysD l.2) := nz_tup (k := 1) (n := 100) (fun d hd => by
    obtain ⟨v, hv, rfl⟩ := List.mem_map.mp hd
    have := hw v hv
    exact nz_pr (by omega) (by omega)) (by rw [List.length_map]; omega)
  exact nz_tup (k := 2) (n := 300) (nz_cons b1 (nz_cons b2 nz_nil)) (by simp)
theorem nz_lots {ls : List Lot} (h : ∀ l ∈ ls, LawLot l) (hn : ls.length ≤ 10) : Nz 64 1048576 (lotsD ls) :=
  (nz_tup (k := 3) (n := 1000) (N := 10010) (fun d hd => by
    obtain ⟨l, hl, rfl⟩ := List.mem_map.mp hd
    exact nz_lot (h l hl)) (by rw [List.length_map]; omega)).mono (by decide) (by decide)
end Ll
namespace K39
open PySem PySem.Spec PyProof.Rows L2 Pv Xv Ll
theorem tm_is {m : Mode} {Y : Fam} {Γ : Xv.Ctx} {c : Expr} {u v : Bool} (h : Tm m Y Γ c u) (q : u = v) : Tm m Y Γ c v := q ▸ h
section
variable {P : Program} {w : World} {K : PySem.W.Frag} {mg : Str → Option Value} {base : Heap} {T : List (Addr × Str)}
def lawSp (K : PySem.W.Frag) (T : List (Addr × Str)) : Spg := fun vs H Q => ∃ (W : Wd) (v : V) (ns : List Int), W.H = H ∧ vs = [v] ∧ Is K W.F v (.d (.list (ns.map .int))) ∧ LamX.Tabs T W.H ∧ (∀ p ∈ T, W.F p.1 = none) ∧ ∀ H', Q (.bl true) H'
theorem fn_law (hm : Md K mg) (hlaw : Fd K mg "law" s_law)
    (L1 : Lm K mg base T "_law_are_sums" s__law_are_sums "_law_are_sums.<locals>.<lambda>") (L2 : Lm K mg base T "_law_are_bases" s__law_are_bases "_law_are_bases.<locals>.<lambda>") (L3 : Lm K mg base T "_law_are_states" s__law_are_states "_law_are_states.<locals>.<lambda>")
    (L4 : Lm K mg base T "_law_are_halves" s__law_are_halves "_law_are_halves.<locals>.<lambda>") (L5 : Lm K mg base T "_law_are_errors" s__law_are_errors "_law_are_errors.<locals>.<lambda>") :
    Cl P w K mg base 11 "law" s_law ["script"] (lawSp K T) := by
  have CB := fn_own_bag (P := P) (w := w) (base := base) hm
  have CD := fn_draw (P := P) (w := w) (base := base) hm
  have CL := fn_lot (P := P) (w := w) (base := base) (T := T) hm
  have C1 := fn_are_sums (P := P) (w := w) (base := base) hm L1
  have C2 := fn_are_bases (P := P) (w := w) (base := base) hm L2
  have C3 := fn_are_states (P := P) (w := w) (base := base) hm L3
  have C4 := fn_are_halves (P := P) (w := w) (base := base) hm L4
  have C5 := fn_are_errors (P := P) (w := w) (base := base) hm L5
  refine .of hlaw (fun _ _ _ _ _ _ us hl => match us, hl with | [_], _ => rfl) fun f fd F => fnG_of F sc_law (fun vs H Q ⟨_, _, _, _, e, _⟩ => by rw [e]; rfl) ?_
  rintro cdv A outer s H hr vs Q ⟨W, v, ns, rfl, rfl, hv, hT, hTF, q⟩
  refine s_stG (m := m0) (i := ()) 1 (eg_callS (P' := fun U v T' => ∃ B C b, v = .ref B ∧ U.H B = none ∧ U.H C = none ∧ T'.F B = none ∧ T'.F C = none ∧ T'.H B = some (.lst [.ref C, .int b.hi, .int b.mix]) ∧ T'.H C = some (.lst (b.cells.map .int)) ∧ B ≠ C ∧ BagOk b) CB (eg_cons (e_v 0 hv) eg_nil) ?_) True.intro ?_
  · rintro U vs T1 l1 l2 _ ⟨_, _, Ta, rfl, la, hva, lb, rfl⟩ Q' z
    refine ⟨T1, _, ns, rfl, rfl, hva.le lb, fun B C T2 b l3 g1 g2 g3 g4 g5 g6 g7 g8 => z _ T2 l3 ⟨B, C, b, rfl, l2.back g1, l2.back g2, g3, g4, g5, g6, g7, g8⟩⟩
  rintro _ V1 k1 _ ⟨B, C, b, rfl, g1, g2, g3, g4, g5, g6, g7, g8⟩
  have r1 : BagR B C T b V1 := ⟨g3, g4, g5, g6, g7, g8, hT.ext (fun a o e => k1.h a o (fun z => z) e), fun p hp => by
    obtain ⟨ps, e, _⟩ := hT p hp
    exact k1.n _ (hTF p hp) (by rw [e]; exact fun z => nomatch z)⟩
  have AA : Ag (lawM B C T) K V1 [.no, .at_ B, .no, .no, .no, .no, .no, .no] [some v, some (.ref B), none, none, none, none, none, none] V1 := by
    refine ⟨rfl, Le.refl V1, ?_, ?_⟩
    · intro n sl e
      match n, e with
      | 0, e => cases e; trivial
      | 1, e => cases e; rfl
      | 2, e => cases e; trivial
      | 3, e => cases e; trivial
      | 4, e => cases e; trivial
      | 5, e => cases e; trivial
      | 6, e => cases e; trivial
      | 7, e => cases e; trivial
      | n + 8, e => simp at e
    · intro n n' sl sl' e e' hs hs' _
      match n, e with
      | 0, e => cases e; cases hs
      | 1, e => cases e; cases hs
      | 2, e => cases e; cases hs
      | 3, e => cases e; cases hs
      | 4, e => cases e; cases hs
      | 5, e => cases e; cases hs
      | 6, e => cases e; cases hs
      | 7, e => cases e; cases hs
      | n + 8, e => simp at e
  show wSs _ _ _ [some v, some (.ref B), none, none, none, none, none, none] V1.H
  refine (?_ : S (lawM B C T) _ [.no, .at_ B, .no, .no, .no, .no, .no, .no] b _ (fun o => ∃ b', o = .rt (.d (.bool true)) b')) V1 _ V1 _ AA r1 ?_
  · refine q_for (fun done Γ (_ : Bag) => ∃ s2 s3 s5 s6 s7 : Sl, Γ = [.no, .at_ B, s2, s3, .no, s5, s6, s7]) (i_rg1 (q := 2) (bi hm) x_int (by decide)) ⟨_, _, _, _, _, rfl⟩ ?_ (fun Γ c ⟨_, _, _, _, _, e⟩ => by subst e; exact q_ret x_bl ⟨_, rfl⟩)
    rintro done tn todo _ c hx ⟨s2, s3, s5, s6, s7, rfl⟩
    refine ⟨_, _, xg_n 2, ?_⟩
    refine q_bag fun bok => ?_
    obtain ⟨o1, a1, a2⟩ := dr_ok (below := 3) bok (by decide)
    refine q_set 3 (x := .d (lotsD (lotsF (dr c 3).2 (1 + (dr c 3).1).toNat))) (j := lotJ (dr c 3).2 (1 + (dr c 3).1).toNat) (x_tupR (bi hm) (XL.r (XL.is (X.toL (xl_lcS [("i", 4)] (lotJ (dr c 3).2) (fun _ => true) (fun k => lotD (lotF (lotJ (dr c 3).2 k)).1) (i_rg1 (bi hm) (x_add x_int (x_draw CD x_int (by decide) (by decide))) (by omega)) (by rw [rgI_len]; omega) (fun k i _ => turn_m (xg_n 4) (x_bag (y := .d (lotD (lotF (lotJ (dr c 3).2 k)).1)) (k := (lotF (lotJ (dr c 3).2 k)).2) CL a_nil rfl (fun _ _ h => h)))) (by rw [rgI_len])) (by rw [rgI_len, lotsF_val])))) ?_
    have okL := lotsF_ok o1 (n := (1 + (dr c 3).1).toNat)
    have lnL := lotsF_len (b := (dr c 3).2) (n := (1 + (dr c 3).1).toNat)
    have bok2 := lotJ_ok o1 (1 + (dr c 3).1).toNat
    have lnL3 : (lotsF (dr c 3).2 (1 + (dr c 3).1).toNat).length ≤ 3 ∧ 1 ≤ (lotsF (dr c 3).2 (1 + (dr c 3).1).toNat).length := by rw [lnL]; omega
    generalize lotsF (dr c 3).2 (1 + (dr c 3).1).toNat = ls at okL lnL3
    generalize lotJ (dr c 3).2 (1 + (dr c 3).1).toNat = c2 at bok2
    clear lnL
    have nzl := nz_lots okL (by omega)
    obtain ⟨o3, d1, d2⟩ := dr_ok (below := 3) bok2 (by decide)
    refine q_par2 5 6 (x := .d (lotsD (lotsF (dr c2 3).2 ((dr c2 3).1).toNat))) (y := .d (.str (PyData.tuple (ls.map lotD)).shown)) (j := lotJ (dr c2 3).2 ((dr c2 3).1).toNat) (a_cons (j := lotJ (dr c2 3).2 ((dr c2 3).1).toNat) (x_tupR (bi hm) (XL.r (XL.is (X.toL (xl_lcS [("i", 4)] (lotJ (dr c2 3).2) (fun _ => true) (fun k => lotD (lotF (lotJ (dr c2 3).2 k)).1) (i_rg1 (bi hm) (x_draw CD x_int (by decide) (by decide)) (by omega)) (by rw [rgI_len]; omega) (fun k i _ => turn_m (xg_n 4) (x_bag (y := .d (lotD (lotF (lotJ (dr c2 3).2 k)).1)) (k := (lotF (lotJ (dr c2 3).2 k)).2) CL a_nil rfl (fun _ _ h => h)))) (by rw [rgI_len])) (by rw [rgI_len, lotsF_val])))) (a_cons (x_reprT (bi hm) x_v nzl) a_nil)) ?_
    have okO := lotsF_ok o3 (n := ((dr c2 3).1).toNat)
    have lnO := lotsF_len (b := (dr c2 3).2) (n := ((dr c2 3).1).toNat)
    have bok4 := lotJ_ok o3 ((dr c2 3).1).toNat
    have lnO3 : (lotsF (dr c2 3).2 ((dr c2 3).1).toNat).length ≤ 3 := by rw [lnO]; omega
    generalize lotsF (dr c2 3).2 ((dr c2 3).1).toNat = os at okO lnO3
    generalize lotJ (dr c2 3).2 ((dr c2 3).1).toNat = c4 at bok4
    clear lnO
    refine q_when (c'_eqi (x_draw CD x_int (by decide) (by decide)) x_int).tst (fun _ => q_set 5 (x := .d (lotsD (ls.reverse ++ os))) (.is (x_catT (x_revT x_v) x_v (by rw [List.length_reverse, List.length_map, List.length_map]; omega)) (by unfold lotsD; rw [List.map_append, List.map_reverse])) (q_nil ?_)) (fun _ => ?_)
    · have okO' : ∀ l ∈ ls.reverse ++ os, LawLot l := by
        intro l hl
        rcases List.mem_append.mp hl with h | h
        · exact okL l (List.mem_reverse.mp h)
        · exact okO l h
      have lnO' : (ls.reverse ++ os).length ≤ 10 := by rw [List.length_append, List.length_reverse]; omega
      generalize ls.reverse ++ os = os' at okO' lnO'
      refine q_for (fun done Γ (_ : Bag) => ∃ s7 : Sl, Γ = [.no, .at_ B, .v (.d (.int tn)), .v (.d (lotsD ls)), .no, .v (.d (lotsD os')), .v (.d (.str (PyData.tuple (ls.map lotD)).shown)), s7]) (i_tup (xs := ls) (enc := lotD) x_v) ⟨_, rfl⟩ ?_ ?_
      · rintro dn l td _ c5 hx5 ⟨s7, rfl⟩
        have lok := okL l (by rw [hx5]; simp)
        refine ⟨_, _, xg_n 7, ?_⟩
        refine q_whenF (tm_is (tm_w (wm_or (u := !true) (tm_not (tm_val (x_bagT (xs := fun _ => [.d (lotD l)]) (jj := fun c => c) (y := .d (.bool true)) C1 (fun c _ => a_cons x_v a_nil) (fun c _ => ⟨l, rfl, lok⟩) (fun c _ y' b' h => h)))) (fun _ => wm_or (u := !true) (v := !true) (tm_not (tm_val (x_bagT (xs := fun _ => [.d (lotD l)]) (jj := fun c => c) (y := .d (.bool true)) C2 (fun c _ => a_cons x_v a_nil) (fun c _ => ⟨l, rfl, lok⟩) (fun c _ y' b' h => h)))) (fun _ => wm_or1 (tm_not (tm_val (x_bagT (xs := fun _ => [.d (lotD l)]) (jj := fun c => c) (y := .d (.bool true)) C4 (fun c _ => a_cons x_v a_nil) (fun c _ => ⟨l, rfl, lok⟩) (fun c _ y' b' h => h)))))))) rfl) (fun j => q_nil ⟨_, rfl⟩)
      · rintro _ c5 ⟨s7, rfl⟩
        cases ls with
        | nil => simp at lnL3
        | cons l0 lr =>
        refine q_whenF (tm_is (tm_w (wm_or (u := !true) (v := (!true || !decide ((PyData.tuple ((l0 :: lr).map lotD)).shown = (PyData.tuple ((l0 :: lr).map lotD)).shown))) (tm_not (tm_val (x_bagT (xs := fun _ => [.d (lotsD (l0 :: lr)), .d (lotsD os')]) (jj := fun c => c) (y := .d (.bool true)) C3 (fun c _ => a_cons x_v (a_cons x_v a_nil)) (fun c _ => ⟨l0 :: lr, os', rfl, okL, okO', by omega, lnO'⟩) (fun c _ y' b' h => h)))) (fun _ => wm_or (u := !true) (tm_not (tm_val (x_tabT (xs := [.d (lotD l0), .d (lotsD (l0 :: lr))]) (y := .d (.bool true)) C5 (fun c _ => a_cons (x_ixt x_v x_int (Pv.atI_nat (k := 0) rfl)) (a_cons x_v a_nil)) ⟨l0, l0 :: lr, rfl, okL l0 (by simp), okL, lnL3.1⟩ (fun y' h => h)))) (fun _ => wm_or1 (tm_of fun i => XC.tst (c'_nes (x_reprT (bi hm) x_v nzl) x_v)))))) (by simp)) (fun j => q_nil ⟨_, _, _, _, _, rfl⟩)
    · have lnO' : os.length ≤ 10 := by omega
      refine q_for (fun done Γ (_ : Bag) => ∃ s7 : Sl, Γ = [.no, .at_ B, .v (.d (.int tn)), .v (.d (lotsD ls)), .no, .v (.d (lotsD os)), .v (.d (.str (PyData.tuple (ls.map lotD)).shown)), s7]) (i_tup (xs := ls) (enc := lotD) x_v) ⟨_, rfl⟩ ?_ ?_
      · rintro dn l td _ c5 hx5 ⟨s7, rfl⟩
        have lok := okL l (by rw [hx5]; simp)
        refine ⟨_, _, xg_n 7, ?_⟩
        refine q_whenF (tm_is (tm_w (wm_or (u := !true) (tm_not (tm_val (x_bagT (xs := fun _ => [.d (lotD l)]) (jj := fun c => c) (y := .d (.bool true)) C1 (fun c _ => a_cons x_v a_nil) (fun c _ => ⟨l, rfl, lok⟩) (fun c _ y' b' h => h)))) (fun _ => wm_or (u := !true) (v := !true) (tm_not (tm_val (x_bagT (xs := fun _ => [.d (lotD l)]) (jj := fun c => c) (y := .d (.bool true)) C2 (fun c _ => a_cons x_v a_nil) (fun c _ => ⟨l, rfl, lok⟩) (fun c _ y' b' h => h)))) (fun _ => wm_or1 (tm_not (tm_val (x_bagT (xs := fun _ => [.d (lotD l)]) (jj := fun c => c) (y := .d (.bool true)) C4 (fun c _ => a_cons x_v a_nil) (fun c _ => ⟨l, rfl, lok⟩) (fun c _ y' b' h => h)))))))) rfl) (fun j => q_nil ⟨_, rfl⟩)
      · rintro _ c5 ⟨s7, rfl⟩
        cases ls with
        | nil => simp at lnL3
        | cons l0 lr =>
        refine q_whenF (tm_is (tm_w (wm_or (u := !true) (v := (!true || !decide ((PyData.tuple ((l0 :: lr).map lotD)).shown = (PyData.tuple ((l0 :: lr).map lotD)).shown))) (tm_not (tm_val (x_bagT (xs := fun _ => [.d (lotsD (l0 :: lr)), .d (lotsD os)]) (jj := fun c => c) (y := .d (.bool true)) C3 (fun c _ => a_cons x_v (a_cons x_v a_nil)) (fun c _ => ⟨l0 :: lr, os, rfl, okL, okO, by omega, lnO'⟩) (fun c _ y' b' h => h)))) (fun _ => wm_or (u := !true) (tm_not (tm_val (x_tabT (xs := [.d (lotD l0), .d (lotsD (l0 :: lr))]) (y := .d (.bool true)) C5 (fun c _ => a_cons (x_ixt x_v x_int (Pv.atI_nat (k := 0) rfl)) (a_cons x_v a_nil)) ⟨l0, l0 :: lr, rfl, okL l0 (by simp), okL, lnL3.1⟩ (fun y' h => h)))) (fun _ => wm_or1 (tm_of fun i => XC.tst (c'_nes (x_reprT (bi hm) x_v nzl) x_v)))))) (by simp)) (fun j => q_nil ⟨_, _, _, _, _, rfl⟩)
  · rintro o ⟨b', rfl⟩
    intro v' V' _ l _ hv'
    have e := hv'.bl
    subst e
    exact q V'.H
end
end K39
set_option Elab.async false
set_option linter.all false
set_option maxRecDepth 100000
set_option maxHeartbeats 4000000
namespace K39
open PySem PySem.Spec PyProof.Rows L2 Pv
theorem md_of {K : PySem.W.Frag} {h : Heap} {mg : Str → Option Value} (X : K.In h) (G : h.Ns mainGlobals mg) (c : He.SaysD fa fn K) : Md K mg where
  fr := fun s hs => by
    have e : s ∈ BN := hs
    simp only [BN, List.mem_cons, List.not_mem_nil, or_false] at e
    rcases e with rfl | rfl | rfl | rfl | rfl | rfl | rfl | rfl | rfl | rfl | rfl | rfl | rfl | rfl | rfl | rfl | rfl | rfl | rfl | rfl
    · exact He.free_ok X G (c.fact 41 (f := .free "ValueError") rfl)
    · exact He.free_ok X G (c.fact 42 (f := .free "abs") rfl)
    · exact He.free_ok X G (c.fact 43 (f := .free "all") rfl)
    · exact He.free_ok X G (c.fact 44 (f := .free "any") rfl)
    · exact He.free_ok X G (c.fact 45 (f := .free "bool") rfl)
    · exact He.free_ok X G (c.fact 46 (f := .free "enumerate") rfl)
    · exact He.free_ok X G (c.fact 47 (f := .free "int") rfl)
    · exact He.free_ok X G (c.fact 48 (f := .free "isinstance") rfl)
    · exact He.free_ok X G (c.fact 49 (f := .free "len") rfl)
    · exact He.free_ok X G (c.fact 50 (f := .free "list") rfl)
    · exact He.free_ok X G (c.fact 51 (f := .free "max") rfl)
    · exact He.free_ok X G (c.fact 52 (f := .free "min") rfl)
    · exact He.free_ok X G (c.fact 53 (f := .free "range") rfl)
    · exact He.free_ok X G (c.fact 54 (f := .free "repr") rfl)
    · exact He.free_ok X G (c.fact 55 (f := .free "reversed") rfl)
    · exact He.free_ok X G (c.fact 56 (f := .free "set") rfl)
    · exact He.free_ok X G (c.fact 57 (f := .free "sorted") rfl)
    · exact He.free_ok X G (c.fact 58 (f := .free "super") rfl)
    · exact He.free_ok X G (c.fact 59 (f := .free "tuple") rfl)
    · exact He.free_ok X G (c.fact 60 (f := .free "zip") rfl)
  d_is_number := fd_of X G c 0 0
  d_is_within := fd_of X G c 1 1
  d_are_numbers := fd_of X G c 2 2
  d_is_way := fd_of X G c 3 3
  d_line_lot_error := fd_of X G c 4 4
  d_lots_error := fd_of X G c 5 5
  d_often_gone := fd_of X G c 6 6
  d_is_way_sum := fd_of X G c 7 7
  d_is_in_lot := fd_of X G c 8 8
  d_is_in_lots := fd_of X G c 9 9
  d_grid_points := fd_of X G c 10 10
  d_lot_states := fd_of X G c 11 11
  d_is_below := fd_of X G c 12 12
  d_least_often := fd_of X G c 13 13
  d_gone_on := fd_of X G c 14 14
  d_let_bases := fd_of X G c 15 15
  d_first_apart_state := fd_of X G c 16 16
  d__law_own_bag := fd_of X G c 17 17
  d__law_draw := fd_of X G c 18 18
  d__law_told := fd_of X G c 19 19
  d__law_same := fd_of X G c 20 20
  d__law_is := fd_of X G c 21 21
  d__law_way := fd_of X G c 22 22
  d__law_lot := fd_of X G c 23 23
  d__law_times := fd_of X G c 24 24
  d__law_is_sum := fd_of X G c 25 25
  d__law_is_in := fd_of X G c 26 26
  d__law_total := fd_of X G c 27 27
  d__law_are_sums := fd_of X G c 28 28
  d__law_are_bases := fd_of X G c 29 29
  d__law_are_states := fd_of X G c 30 30
  d__law_are_halves := fd_of X G c 31 31
  d__law_are_errors := fd_of X G c 32 32
  i_MAX_WEIGHT := He.int_ok X G (c.fact 37 (f := .int "MAX_WEIGHT" 9) rfl)
  i_MAX_LINES := He.int_ok X G (c.fact 38 (f := .int "MAX_LINES" 20) rfl)
  i_MAX_LINE := He.int_ok X G (c.fact 39 (f := .int "MAX_LINE" 60) rfl)
  i_MAX_BASE := He.int_ok X G (c.fact 40 (f := .int "MAX_BASE" 1000) rfl)
def lamT (K : PySem.W.Frag) : List (Addr × Str) := tf.map fun p => ((He.cT K p).2, p.1 ++ ".<locals>.<lambda>")
theorem tfm0 : (("_law_are_sums", none) : He.Defn) ∈ tf := List.mem_cons_self ..
theorem tfm1 : (("_law_are_bases", none) : He.Defn) ∈ tf := List.mem_cons_of_mem _ (List.mem_cons_self ..)
theorem tfm2 : (("_law_are_states", none) : He.Defn) ∈ tf := List.mem_cons_of_mem _ (List.mem_cons_of_mem _ (List.mem_cons_self ..))
theorem tfm3 : (("_law_are_halves", none) : He.Defn) ∈ tf := List.mem_cons_of_mem _ (List.mem_cons_of_mem _ (List.mem_cons_of_mem _ (List.mem_cons_self ..)))
theorem tfm4 : (("_law_are_errors", none) : He.Defn) ∈ tf := List.mem_cons_of_mem _ (List.mem_cons_of_mem _ (List.mem_cons_of_mem _ (List.mem_cons_of_mem _ (List.mem_cons_self ..))))
theorem apart_inj {α : Type} (f : α → Addr) : ∀ l : List α, apart (l.map f) = true → ∀ q ∈ l, ∀ q' ∈ l, f q = f q' → q = q'
  | [], _, q, hq, _, _, _ => nomatch hq
  | a :: l, h, q, hq, q', hq', e => by
    have h' : ((l.map f).all fun b => !(Nat.beq (f a) b)) = true ∧ apart (l.map f) = true := by
      simpa only [List.map_cons, apart, Bool.and_eq_true] using h
    have ne : ∀ x ∈ l, f a ≠ f x := fun x hx z => by
      have w := List.all_eq_true.mp h'.1 (f x) (List.mem_map.mpr ⟨x, hx, rfl⟩)
      rw [z] at w
      have : Nat.beq (f x) (f x) = true := Nat.beq_refl _
      rw [this] at w
      cases w
    rcases List.mem_cons.mp hq with e1 | h1
    · rcases List.mem_cons.mp hq' with e2 | h2
      · rw [e1, e2]
      · rw [e1] at e
        exact absurd e (ne _ h2)
    · rcases List.mem_cons.mp hq' with e2 | h2
      · rw [e2] at e
        exact absurd e.symm (ne _ h1)
      · exact apart_inj f l h'.2 q h1 q' h2 e
theorem law_end {w : World} {mg : Str → Option Value} {fa' : Addr} {h : Heap} {K : PySem.W.Frag} (X : K.In h) (G : h.Ns mainGlobals mg) (hmg : mg "law" = some (.ref fa')) (c : He.SaysX fa fn [] tf exT w h K) :
    LawG PySem.Challenge.rw_tokensteps_k39_whole_line_lots_by_own w K 11 63 "script" mg fa' h (tf.map (He.cT K)) := by
  have cD := c.t.d
  have e := hmg.symm.trans (He.glo_ok X G (cD.fact 33 (f := .glo "law") rfl))
  cases e
  have ap : apart (tf.map fun p => (He.cT K p).2) = true := c.more
  refine ⟨X, fun p hp => ?_, fun p hp => ?_, fun p hp => ?_, ?_⟩
  · obtain ⟨q, hq, rfl⟩ := List.mem_map.mp hp
    exact c.empty q hq
  · obtain ⟨q, hq, rfl⟩ := List.mem_map.mp hp
    exact c.out q hq
  · obtain ⟨q, hq, rfl⟩ := List.mem_map.mp hp
    exact PySem.W.codeHd_of_K X (c.hd q hq)
  · have M := md_of X G cD
    have D : Fd K mg "law" s_law := fd_of X G cD 33 33
    obtain ⟨fd, F⟩ := cD.def_ 33 (d := d_law) rfl
    have F' : FnD K "law" s_law (He.fAd K ("law", none)) fd := F
    have hu : ∀ q ∈ tf, ∀ p ∈ lamT K, p.1 = (He.cT K q).2 → p.2 = q.1 ++ ".<locals>.<lambda>" := by
      intro q hq p hp e
      obtain ⟨q', hq', rfl⟩ := List.mem_map.mp hp
      have e2 : q' = q := apart_inj (fun p => (He.cT K p).2) tf ap q' hq' q hq e
      rw [e2]
    have inT : ∀ q ∈ tf, ((He.cT K q).2, q.1 ++ ".<locals>.<lambda>") ∈ lamT K := fun q hq => List.mem_map.mpr ⟨q, hq, rfl⟩
    have inC : ∀ q ∈ tf, He.cT K q ∈ tf.map (He.cT K) := fun q hq => List.mem_map.mpr ⟨q, hq, rfl⟩
    refine ⟨fd, lawSp K (lamT K), fun s v => ?_, fun base hK hG TB => ?_, fun W a ns hl _ hW hi => ?_⟩
    · have b := FunD.bindsA (ps := ["script"]) F' fun _ _ _ _ _ _ us hl => match us, hl with | [_], _ => rfl
      exact b s [v] rfl
    · have C := fn_law (P := PySem.Challenge.rw_tokensteps_k39_whole_line_lots_by_own.prog) (w := w) (K := K) (mg := mg) (base := base) (T := lamT K) M D
        (lm_of X G cD 28 28 (TB _ (inC _ tfm0)) (inT _ tfm0) (hu _ tfm0))
        (lm_of X G cD 29 29 (TB _ (inC _ tfm1)) (inT _ tfm1) (hu _ tfm1))
        (lm_of X G cD 30 30 (TB _ (inC _ tfm2)) (inT _ tfm2) (hu _ tfm2))
        (lm_of X G cD 31 31 (TB _ (inC _ tfm3)) (inT _ tfm3) (hu _ tfm3))
        (lm_of X G cD 32 32 (TB _ (inC _ tfm4)) (inT _ tfm4) (hu _ tfm4))
      exact C.fn' hmg F'
    · refine ⟨W, .ref a, ns, rfl, rfl, hi, fun p hp => ?_, fun p hp => ?_, fun _ => rfl⟩
      · obtain ⟨q, hq, rfl⟩ := List.mem_map.mp hp
        exact LamX.TabS.nil (hW _ (inC q hq)).1
      · obtain ⟨q, hq, rfl⟩ := List.mem_map.mp hp
        exact (hW _ (inC q hq)).2
end K39
set_option Elab.async false
set_option linter.all false
set_option maxRecDepth 100000
set_option maxHeartbeats 0
open PySem PySem.W PyProof.Rows
theorem PySem.Challenge.cw_tokensteps_k39_whole_line_lots_by_own_holds : PySem.Challenge.rw_tokensteps_k39_whole_line_lots_by_own.Holds := by
  w_on; o_law
  refine HandSHeadRun.head_any (r := OpenLaw.row PySem.Challenge.rw_tokensteps_k39_whole_line_lots_by_own) (q := view (OpenLaw.row PySem.Challenge.rw_tokensteps_k39_whole_line_lots_by_own).prog [47]) (H := K39.hk) (ob := K39.ob) (M := 4000) (loose := K39.loose) (d := HandSHeadRun.topDef (OpenLaw.row PySem.Challenge.rw_tokensteps_k39_whole_line_lots_by_own).prog 47) (kwd := []) K39.ob_eq
    (by kernel_rfl) (fun s => by kernel_rfl) K39.run (by kernel_rfl) (by kernel_rfl) (by kernel_rfl) (by rfl) (by first | assumption | decide +kernel) (by decide +kernel) ⟨rfl, rfl, rfl, rfl, rfl, by decide +kernel⟩ ?hw ?hc
  case hw => w_witness2
  case hc =>
    refine Pv.walkG (l := PySem.Challenge.rw_tokensteps_k39_whole_line_lots_by_own) (n := 63) (k := 11) (x := "script") rfl (by decide) (by kernel_rfl) (by decide) ?F
    intro w mg fa h Y G hmg0
    obtain ⟨K, KX, c⟩ := Y
    have hmg : mg ("law" : PySem.Str) = some (.ref fa) := by
      have e : (HandSHeadRun.topDef (OpenLaw.row PySem.Challenge.rw_tokensteps_k39_whole_line_lots_by_own).prog 47).name = ("law" : PySem.Str) := by kernel_rfl
      rw [← e]
      exact hmg0
    exact ⟨K, _, K39.law_end KX G hmg c⟩
