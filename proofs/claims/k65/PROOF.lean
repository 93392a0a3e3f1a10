import PyProof.Rows.All
import Wide.All
import OpenK.AllK
import Wide.FinOn
import KE.KStateDown
import KE.KCallOwn
import Lean
import HandS.Base
import HandS.Call
import HandS.List
import HandS.Comp
import HandS.Ends
import HandS.Dict
import HandS.Iter
import HandS.Text
import HandS.More
import HandS.Exc
import HandS.TryOnly
import HandS.ExcOwn
import HandS.Words
import HandS.WordsList
import HandS.WordsDict
import HandS.WordsExc
import HandS.Defaults
import HandS.Property
import HandS.MakeKw
import HandS.MakeKwOnly
import HandS.ClsMeth
import HandS.IsInst
import HandS.FStr
import HandS.Flow
import HandS.Star
import HandS.Zip
import HandS.Steps
import HandS.Evl
import HandS.TupAny
import HandS.Style
import HandS.Head0
import HandS.Head1
import HandS.Head2
import HandS.HeadEnd
import HandS.HeadHook1
import HandS.HeadHook2
import HandS.Walk
import KE.GoesEnum
import PySem.Challenge.RW_ringvotes_k65_desks_set_one_by_one
set_option Elab.async false
set_option linter.all false
set_option maxRecDepth 100000
set_option maxHeartbeats 4000000
/-! RvA: what stands behind the top (a hook of one's own), rules for own operators. -/
namespace RV
open PySem PySem.Spec PyProof.Rows L2 Evl

/-! ### the hook: facts as Bools over the written part, defs by where they stand -/
abbrev Fg := PySem.W.Frag
/-- the getter of a property x.f, the function of a classmethod -/
def recA (K : Fg) (T : String) (p : Addr) : Addr := match PySem.W.recIn K p T with
  | some (.ref g :: _) => g
  | _ => 0
/-- where a def stands: a global, a method, a property's getter, a classmethod's function -/
inductive At where
  | glo (x : Str) | met (C m : Str) | prp (C m : Str) | clm (C m : Str)
def At.a (K : Fg) : At → Addr
  | .glo x => He.ga K x
  | .met C m => He.ma K (He.ga K C) m
  | .prp C m => recA K "property" (He.ma K (He.ga K C) m)
  | .clm C m => recA K "classmethod" (He.ma K (He.ga K C) m)
/-- one def of the text -/
structure DX where
  at_ : At
  name : Str
  qual : Str
  params : Arguments
  body : List Stmt
  scope : Scope
  dfl : List He.Dv := []
  kwd : List (Str × He.Dv) := []
def fnX (K : Fg) (a : Addr) : He.FnW := match K.lookup a with
  | some ⟨_, _, .func g, _⟩ => some (g.name, g.qualname, g.params, g.body, g.scope, g.globals, g.closure, g.builtins)
  | _ => none
def DX.val (d : DX) : He.FnW := some (d.name, d.qual, d.params, .stmts d.body, d.scope, mainGlobals, [], builtinsNs)
def DX.dv (K : Fg) (d : DX) : List V := d.dfl.map (He.Dv.v K)
def DX.kv (K : Fg) (d : DX) : List (Str × V) := d.kwd.map fun q => (q.1, q.2.v K)
def DX.good (K : Fg) (d : DX) : Bool := PySem.W.keepIn K (.ref (d.at_.a K)) && (match K.lookup (d.at_.a K) with
  | some ⟨_, _, .func g, _⟩ => PySem.W.codeIn K g.code d.qual && (He.dflB K g.defaults (d.dv K) && He.kwdB K g.kwdefaults (d.kv K))
  | _ => false)
theorem DX.fun_ {K : Fg} {d : DX} (e : fnX K (d.at_.a K) = d.val) (c : d.good K = true) :
    ∃ fd, FunD K d.name d.qual d.params d.body d.scope (d.dv K) (d.kv K) (d.at_.a K) fd := by
  obtain ⟨kp, c2⟩ := He.ba c
  unfold fnX at e
  split at e
  · rename_i oc od g sl q
    rw [q] at c2
    obtain ⟨n1, n2, n3, n4, n5, n6, n7, n8, n9, n10, n11, n12, n13, n14, n15⟩ := g
    have e2 := e
    unfold DX.val at e2
    simp only [Option.some.injEq, Prod.mk.injEq] at e2
    obtain ⟨h1, h2, h3, h4, h5, h6, h7, h8⟩ := e2
    subst h1 h2 h3 h4 h5 h6 h7 h8
    obtain ⟨k1, k2⟩ := He.ba (show (PySem.W.codeIn K n13 d.qual && (He.dflB K n8 (d.dv K) && He.kwdB K n9 (d.kv K))) = true from c2)
    obtain ⟨k3, k4⟩ := He.ba k2
    exact ⟨_, ⟨oc, od, n8, n9, n10, n11, n12, n13, n14, sl, rfl, q, k1, He.dflB_ok k3, He.kwdB_ok k4⟩, kp⟩
  · cases e
abbrev AlX : Type := Bool × List He.FnW
def obsX (fx : List (Fg → Bool)) (fn : List DX) (K : Fg) : AlX := ((fx.all fun f => f K) && fn.all fun d => d.good K, fn.map fun d => fnX K (d.at_.a K))
def valX (fn : List DX) : AlX := (true, fn.map DX.val)
def SaysX (fx : List (Fg → Bool)) (fn : List DX) (K : Fg) : Prop := obsX fx fn K = valX fn
def obsXG (n : Nat) (fx : List (Fg → Bool)) (fn : List DX) (g : Addr → Option Obj) : AlX := obsX fx fn (He.frG g (He.asD g n ++ [PySem.cStatics]))
def hookX (n : Nat) (fx : List (Fg → Bool)) (fn : List DX) : PySem.W.Hook where
  α := AlX
  obs := fun s => obsXG n fx fn s.heap.get?
  val := fun _ => valX fn
  says := fun _ h => ∃ K : Fg, K.In h ∧ SaysX fx fn K
  of := fun _ _ e => ⟨_, He.frG_in, e⟩
  keeps := fun _ _ _ ⟨K, hK, c⟩ k => ⟨K, PySem.W.Frag.In.keeps hK k, c⟩
theorem obsXG_eq {n : Nat} {fx : List (Fg → Bool)} {fn : List DX} {g : Addr → Option Obj} {s : Shared} (h : ∀ a, g a = s.heap.get? a) : obsXG n fx fn g = (hookX n fx fn).obs s := by
  obtain rfl : g = s.heap.get? := funext h
  rfl
section
variable {fx : List (Fg → Bool)} {fn : List DX} {K : Fg}
theorem SaysX.fact (c : SaysX fx fn K) (i : Nat) {f : Fg → Bool} (h : fx[i]? = some f := by rfl) : f K = true :=
  List.all_eq_true.mp (He.ba (show ((fx.all fun f => f K) && fn.all fun d => d.good K) = true from congrArg (·.1) c)).1 f (List.mem_of_getElem? h)
theorem SaysX.def_ (c : SaysX fx fn K) (i : Nat) {d : DX} (h : fn[i]? = some d := by rfl) : ∃ fd, FunD K d.name d.qual d.params d.body d.scope (d.dv K) (d.kv K) (d.at_.a K) fd := by
  have c2 := (He.ba (show ((fx.all fun f => f K) && fn.all fun d => d.good K) = true from congrArg (·.1) c)).2
  have e : fn.map (fun d => fnX K (d.at_.a K)) = fn.map DX.val := congrArg (·.2) c
  have e2 := congrArg (fun l => l[i]?) e
  simp only [List.getElem?_map, h, Option.map_some, Option.some.injEq] at e2
  exact DX.fun_ e2 (List.all_eq_true.mp c2 d (List.mem_of_getElem? h))
end

/-! ### facts of classes -/
/-- a property -/
def prpB (C m : Str) : Fg → Bool := fun K => He.eqO (PySem.W.findIn K (.ref (He.ga K C)) m) (some (some (.ref (He.ma K (He.ga K C) m)))) &&
  (He.eqO (PySem.W.specialIn K (.ref (He.ma K (He.ga K C) m)) "__get__") (some (some (.builtin "property.__get__"))) &&
  (decide (PySem.W.takesIn K (.ref (He.ma K (He.ga K C) m)) = some true) && (match PySem.W.recIn K (He.ma K (He.ga K C) m) "property" with
    | some (.ref _ :: _) => true
    | _ => false)))
theorem prp_ok {K : Fg} {C m : Str} (c : prpB C m K = true) : PropOf K (He.ga K C) m (He.ma K (He.ga K C) m) (At.a K (.prp C m)) := by
  obtain ⟨c1, c⟩ := He.ba c
  obtain ⟨c2, c⟩ := He.ba c
  obtain ⟨c3, c4⟩ := He.ba c
  refine ⟨He.eqO_ok c1, He.eqO_ok c2, of_decide_eq_true c3, ?_⟩
  split at c4
  · rename_i g r q
    have e : At.a K (.prp C m) = g := by
      show recA K "property" (He.ma K (He.ga K C) m) = g
      unfold recA
      rw [q]
    exact ⟨r, by rw [e]; exact q⟩
  · cases c4
/-- an instance's method that is a function, by its name -/
structure Own (K : Fg) (C : Addr) (m : Str) (f : Addr) : Prop where
  at_ : PySem.W.findIn K (.ref C) m = some (some (.ref f))
  fn : PySem.W.isFn K (.ref f) = true
def ownB (C m : Str) : Fg → Bool := fun K => He.eqO (PySem.W.findIn K (.ref (He.ga K C)) m) (some (some (.ref (He.ma K (He.ga K C) m)))) && PySem.W.isFn K (.ref (He.ma K (He.ga K C) m))
theorem own_ok {K : Fg} {C m : Str} (c : ownB C m K = true) : Own K (He.ga K C) m (At.a K (.met C m)) := ⟨He.eqO_ok (He.ba c).1, (He.ba c).2⟩
end RV

/-! RvB: heaps, calls by a def's name, closers. -/
namespace RV
open PySem PySem.Spec PyProof.Rows L2 Evl

/-! ### heaps -/
theorem same_new {H : Hp} {p : Addr} {o : HO} (h : H p = none) : Ex H (upd H p o) := fun a u e => by
  rw [upd_ne (ne_of_none e h)]
  exact e
/-- all but some addresses is as it was -/
def But (W : List Addr) (H H' : Hp) : Prop := ∀ b o, H b = some o → b ∉ W → H' b = some o
theorem But.refl (W : List Addr) (H : Hp) : But W H H := fun _ _ h _ => h
theorem But.trans {W : List Addr} {H H1 H2 : Hp} (a : But W H H1) (b : But W H1 H2) : But W H H2 := fun c o h n => b c o (a c o h n) n
theorem But.same {W : List Addr} {H H1 H2 : Hp} (a : But W H H1) (b : Ex H1 H2) : But W H H2 := fun c o h n => b c o (a c o h n)
theorem _root_.Evl.Ex.but {W : List Addr} {H H1 : Hp} (a : Ex H H1) : But W H H1 := fun c o h _ => a c o h
theorem _root_.Evl.Ex.butT {W : List Addr} {H H1 H2 : Hp} (a : Ex H H1) (b : But W H1 H2) : But W H H2 := fun c o h n => b c o (a c o h) n
theorem But.mono {W W' : List Addr} {H H1 : Hp} (a : But W H H1) (h : ∀ b ∈ W, b ∈ W') : But W' H H1 := fun c o e n => a c o e fun z => n (h c z)
theorem but_set {H : Hp} {p : Addr} {o : HO} : But [p] H (upd H p o) := fun a u e n => by
  rw [upd_ne (by simpa using n)]
  exact e
theorem _root_.Evl.Ex.mutB {H H1 H2 : Hp} {W : List Addr} (a : Ex H H1) (c : But W H1 H2) (h : ∀ p ∈ W, H p = none) : Ex H H2 := fun b u e =>
  c b u (a b u e) fun z => by
    rw [h b z] at e
    cases e
theorem hp_same {H H1 : Hp} {a : Addr} {o : HO} (e : Ex H H1) (h : H a = some o) : H1 a = some o := e a o h
theorem hp_old {H : Hp} {p a : Addr} {o u : HO} (n : H p = none) (h : H a = some u) : upd H p o a = some u := same_new n a u h
theorem hp_oth {H : Hp} {p a : Addr} {o u : HO} (n : a ≠ p) (h : H a = some u) : upd H p o a = some u := by
  rw [upd_ne n]
  exact h
theorem hp_but {W : List Addr} {H H1 : Hp} {a : Addr} {o : HO} (e : But W H H1) (n : a ∉ W) (h : H a = some o) : H1 a = some o := e a o h n
theorem sqL_of {K : Fg} {H : Hp} {a : Addr} {xs : List V} (h : H a = some (.lst xs)) : SqL K H a xs := .inl (.inl h)
theorem sqT_of {K : Fg} {H : Hp} {a : Addr} {xs : List V} (h : H a = some (.tup xs)) : SqT K H a xs := .inl (.inl h)
theorem not_mem1 {a b : Addr} (h : a ≠ b) : a ∉ [b] := by simpa using h
theorem ne_nn {H : Hp} {a b : Addr} {o : HO} (h : H b = none) (g : H a = some o) : a ≠ b := ne_of_none g h
theorem ne_oo {H : Hp} {a b : Addr} {o u : HO} (h : H a = some o) (g : H b = some u) (d : o ≠ u) : a ≠ b := ne_of h g d
theorem sz2 {n : Nat} (h : n ≤ 100000) : n ≤ sizeLine := Nat.le_trans h (by decide)
theorem sz3 {n : Nat} (h : n < 100000) : n < sizeLine := Nat.lt_of_lt_of_le h (by decide)

/-! ### what stands behind the top -/
structure Tx (fx : List (Fg → Bool)) (fn : List DX) (K : Fg) (mg : Str → Option Value) : Prop where
  says : SaysX fx fn K
  look : ∀ (x : Str) (v : Value), PySem.W.nsIn K mainGlobals x = some (some v) → mg x = some v
  none : ∀ (x : Str), PySem.W.nsIn K mainGlobals x = some Option.none → mg x = Option.none
theorem Tx.mk' {fx : List (Fg → Bool)} {fn : List DX} {K : Fg} {mg : Str → Option Value} {h : Heap} (c : SaysX fx fn K) (X : K.In h) (G : h.Ns mainGlobals mg) : Tx fx fn K mg :=
  ⟨c, fun _ _ e => PySem.W.mg_of X G e, fun _ e => PySem.W.mg_none_of X G e⟩
def gloB (x : Str) : Fg → Bool := (He.Fa.glo x).ok
def freeB (x : Str) : Fg → Bool := (He.Fa.free x).ok
def intB (x : Str) (i : Int) : Fg → Bool := fun K => match PySem.W.nsIn K mainGlobals x with
  | some (some (.int j _)) => decide (j = i)
  | _ => false
def strB (x z : Str) : Fg → Bool := fun K => match PySem.W.nsIn K mainGlobals x with
  | some (some (.str y _)) => decide (y = z)
  | _ => false
def clsB (x : Str) : Fg → Bool := (He.Fa.cls x).ok
def noatB (x f : Str) : Fg → Bool := (He.Fa.noat x f).ok
def methB (x m : Str) : Fg → Bool := (He.Fa.meth x m).ok
def mkrB (x : Str) : Fg → Bool := (He.Fa.mkr x).ok
section
variable {fx : List (Fg → Bool)} {fn : List DX} {K : Fg} {mg : Str → Option Value}
theorem Tx.glo (T : Tx fx fn K mg) (i : Nat) {x : Str} (h : fx[i]? = some (gloB x) := by rfl) : mg x = some (.ref (He.ga K x)) := T.look _ _ (He.eqO_ok (T.says.fact i h))
theorem Tx.free (T : Tx fx fn K mg) (i : Nat) {x : Str} (h : fx[i]? = some (freeB x) := by rfl) : mg x = Option.none := T.none _ (He.eqO_ok (T.says.fact i h))
theorem Tx.int (T : Tx fx fn K mg) (i : Nat) {x : Str} {n : Int} (h : fx[i]? = some (intB x n) := by rfl) : ∃ u, mg x = some u ∧ RelV (.int n) u := by
  have c : intB x n K = true := T.says.fact i h
  unfold intB at c
  split at c
  · rename_i j t e
    have ej : j = n := of_decide_eq_true c
    subst ej
    exact ⟨_, T.look _ _ e, ⟨t, rfl⟩⟩
  · cases c
theorem Tx.str (T : Tx fx fn K mg) (i : Nat) {x z : Str} (h : fx[i]? = some (strB x z) := by rfl) : ∃ u, mg x = some u ∧ RelV (.str z) u := by
  have c : strB x z K = true := T.says.fact i h
  unfold strB at c
  split at c
  · rename_i j t e
    have ej : j = z := of_decide_eq_true c
    subst ej
    exact ⟨_, T.look _ _ e, ⟨t, rfl⟩⟩
  · cases c
theorem Tx.cls (T : Tx fx fn K mg) (i : Nat) {x : Str} (h : fx[i]? = some (clsB x) := by rfl) : Cls K (He.ga K x) := He.cls_ok (T.says.fact i h)
theorem Tx.noat (T : Tx fx fn K mg) (i : Nat) {x f : Str} (h : fx[i]? = some (noatB x f) := by rfl) : NoAttr K (He.ga K x) f := He.noat_ok (T.says.fact i h)
theorem Tx.meth (T : Tx fx fn K mg) (i : Nat) {x m : Str} (h : fx[i]? = some (methB x m) := by rfl) : Meth K (He.ga K x) m (At.a K (.met x m)) := He.meth_ok (T.says.fact i h)
theorem Tx.mkr (T : Tx fx fn K mg) (i : Nat) {x : Str} (h : fx[i]? = some (mkrB x) := by rfl) : Mk K (He.ga K x) (At.a K (.met x "__init__")) := He.mkr_ok (T.says.fact i h)
theorem Tx.prp (T : Tx fx fn K mg) (i : Nat) {C m : Str} (h : fx[i]? = some (prpB C m) := by rfl) : PropOf K (He.ga K C) m (He.ma K (He.ga K C) m) (At.a K (.prp C m)) := prp_ok (T.says.fact i h)
theorem Tx.own (T : Tx fx fn K mg) (i : Nat) {C m : Str} (h : fx[i]? = some (ownB C m) := by rfl) : Own K (He.ga K C) m (At.a K (.met C m)) := own_ok (T.says.fact i h)
end

/-! ### a def that may be called by its name; dvs: what its defaults fill up -/
structure Cal (P : Program) (w : World) (K : Fg) (mg : Str → Option Value) (base : Heap) (k : Nat) (x : Str) (sp : Sp) (dvs : List V) : Prop where
  ex : ∃ (f : Addr) (fd : FuncData) (ps : List Str) (ds : List Value), FnOk P w K mg base (L2.CX P w) k f fd ps sp ∧ mg x = some (.ref f) ∧ PySem.W.keepIn K (.ref f) = true ∧ Binds K fd ps ds ∧ Vals dvs ds
/-- .. by where it stands -/
structure CalA (P : Program) (w : World) (K : Fg) (mg : Str → Option Value) (base : Heap) (k : Nat) (f : Addr) (sp : Sp) (dvs : List V) : Prop where
  ex : ∃ (fd : FuncData) (ps : List Str) (ds : List Value), FnOk P w K mg base (L2.CX P w) k f fd ps sp ∧ PySem.W.keepIn K (.ref f) = true ∧ Binds K fd ps ds ∧ Vals dvs ds
section
variable {P : Program} {w : World} {K : Fg} {mg : Str → Option Value} {base : Heap}
theorem CalA.cal {k : Nat} {x : Str} {f : Addr} {sp : Sp} {dvs : List V} (c : CalA P w K mg base k f sp dvs) (hm : mg x = some (.ref f)) : Cal P w K mg base k x sp dvs := by
  obtain ⟨fd, ps, ds, F, kp, b, d⟩ := c.ex
  exact ⟨f, fd, ps, ds, F, hm, kp, b, d⟩
/-- a def without defaults that lets nothing out: its body's walk -/
theorem cal_nox {x qual : Str} {params : Arguments} {body : List Stmt} {scope : Scope} {f : Addr} {fd : FuncData} {N ps : List Str} {k : Nat} {sp : Sp} (F : FunD K x qual params body scope [] [] f fd) (S : FnScope N ps scope)
    (len : ∀ vs H Q E, sp vs H Q E → vs.length = ps.length)
    (hb : ∀ (kV doc pm : Value) (an : Option Addr) (cdv ct : Value) (us : List Value), us.length = ps.length → bindArgs (PySem.W.fnOf x qual params body scope .none kV doc pm an cdv ct) ⟨us, []⟩ = pure (ps.zip us))
    (walk : ∀ (cdv : Value) (A : Around) (outer : List Env) (s : Shared) (H : Hp) (vs : List V) (Q : VK) (E : XK), Room k (A.deeper (envOfC qual scope s.heap.objs.size f cdv)) → sp vs H Q E →
      ∃ t, PSs (cxOf (L2.CX P w) P w K mg base N qual scope f cdv A outer s H E).nox body t ∧ t { nx := fun _ H' => Q .non H', rt := Q } (start N vs) H) : CalA P w K mg base (k + 1) f sp [] :=
  ⟨fd, ps, [], F.ok S len fun cdv A outer s H vs Q E hr h => by
    obtain ⟨t, h1, h2⟩ := walk cdv A outer s H vs Q E hr h
    exact ⟨t, h1.nox, h2⟩, F.kp, F.bindsN hb, .nil⟩
end
section
variable {X : Cx} {k j : Nat} {x : Str} {f : Addr} {sp : Sp} {dvs : List V} {p pos apos : Pos} {e o : Expr} {es : List Expr} {ta : TE} {t : TA} {E : XK}
theorem pe_cal (c : Cal X.prog X.w X.K X.mg X.base k x sp dvs) (hr : Room j X.A) (hk : k ≤ j) (hg : Gl X x) (ha : PA X (e :: es) t)
    (hdb : (x == ("__debug__" : Str)) = false := by decide) (he : starEach (e :: es) X.env = (false, eval e X.env) :: starEach es X.env := by rfl) (hpl : (backTo pos (starEach es X.env)).any (·.1) = false := by rfl) :
    PE X (.Call (.Name x p) (e :: es) [] pos) (tCall sp dvs E0 t) := by
  obtain ⟨f, fd, ps, ds, F, hm, kp, b, d⟩ := c.ex
  exact pe_call F (hr.mono hk) hg hm kp b d passL ha hdb he hpl
theorem pe_cal0 (c : Cal X.prog X.w X.K X.mg X.base k x sp dvs) (hr : Room j X.A) (hk : k ≤ j) (hg : Gl X x) (hdb : (x == ("__debug__" : Str)) = false := by decide) :
    PE X (.Call (.Name x p) [] [] pos) (tCall sp dvs E0 tNil) := by
  obtain ⟨f, fd, ps, ds, F, hm, kp, b, d⟩ := c.ex
  exact pe_call0 F (hr.mono hk) hg hm kp b d passL hdb
theorem pe_gv {v : V} (hg : Gl X x) (h : ∃ u, X.mg x = some u ∧ RelV v u) (hd : (x == ("__debug__" : Str)) = false := by decide) : PE X (.Name x pos) (tC v) := by
  obtain ⟨u, hm, r⟩ := h
  exact pe_glob hg hm r hd
end

/-! ### isinstance -/
/-- isinstance(x, T), T built in, answers b -/
def IsB (K : Fg) (H : Hp) (x : V) (T : String) (b : Bool) : Prop := ∃ t, TyX K H x t ∧ PySem.W.kitOne K t (.type T) = some b
def IsC (K : Fg) (H : Hp) (x : V) (C : Addr) (b : Bool) : Prop := ∃ t, TyX K H x t ∧ PySem.W.kitOne K t (.ref C) = some b
def rIsB (K : Fg) : List V → Hp → VK → Prop := fun xs H Q => ∃ x T b, xs = [x, .ty T] ∧ IsB K H x T b ∧ Q (.bl b) H
def rIsC (K : Fg) : List V → Hp → VK → Prop := fun xs H Q => ∃ x C b, xs = [x, .ref C] ∧ IsC K H x C b ∧ Q (.bl b) H
theorem call_isB {X : Cx} : CallR X (.builtin "isinstance") (rIsB X.K) := fun pins s σ H xs us Q I r ⟨x, T, b, e, ⟨t, h1, h2⟩, q⟩ =>
  call_isi pins s σ H xs us Q I r ⟨x, .ty T, t, .type T, b, e, .ty T, h1, h2, q⟩
theorem call_isCl {X : Cx} : CallR X (.builtin "isinstance") (rIsC X.K) := fun pins s σ H xs us Q I r ⟨x, C, b, e, ⟨t, h1, h2⟩, q⟩ =>
  call_isi pins s σ H xs us Q I r ⟨x, .ref C, t, .ref C, b, e, .own C, h1, h2, q⟩
end RV

/-! RvC: properties, methods, makings, own operators. -/
namespace RV
open PySem PySem.Spec PyProof.Rows L2 Evl

section
variable {P : Program} {w : World} {K : Fg} {mg : Str → Option Value} {base : Heap}
/-- a property -/
structure Prp (P : Program) (w : World) (K : Fg) (mg : Str → Option Value) (base : Heap) (k : Nat) (C : Addr) (f : Str) (sp : Sp) : Prop where
  ex : ∃ (p g : Addr) (fd : FuncData) (ps : List Str), Cls K C ∧ PropOf K C f p g ∧ FnOk P w K mg base (L2.CX P w) k g fd ps sp ∧ Binds K fd ps []
theorem prp_of {k : Nat} {C p g : Addr} {f : Str} {sp : Sp} (c : Cls K C) (h : PropOf K C f p g) (o : CalA P w K mg base k g sp []) : Prp P w K mg base k C f sp := by
  obtain ⟨fd, ps, ds, F, kp, b, d⟩ := o.ex
  cases d
  exact ⟨p, g, fd, ps, c, h, F, b⟩
/-- a method -/
structure Met (P : Program) (w : World) (K : Fg) (mg : Str → Option Value) (base : Heap) (k : Nat) (C : Addr) (m : Str) (sp : Sp) (dvs : List V) : Prop where
  ex : ∃ (f : Addr) (fd : FuncData) (ps : List Str) (ds : List Value), Cls K C ∧ Meth K C m f ∧ FnOk P w K mg base (L2.CX P w) k f fd ps sp ∧ Binds K fd ps ds ∧ Vals dvs ds
theorem met_of {k : Nat} {C f : Addr} {m : Str} {sp : Sp} {dvs : List V} (c : Cls K C) (h : Meth K C m f) (o : CalA P w K mg base k f sp dvs) : Met P w K mg base k C m sp dvs := by
  obtain ⟨fd, ps, ds, F, kp, b, d⟩ := o.ex
  exact ⟨f, fd, ps, ds, c, h, F, b, d⟩
/-- a class that is made by its name -/
structure Mak (P : Program) (w : World) (K : Fg) (mg : Str → Option Value) (base : Heap) (k : Nat) (x : Str) (C : Addr) (sp : Sp) (dvs : List V) : Prop where
  ex : ∃ (f : Addr) (fd : FuncData) (ps : List Str) (ds : List Value), Mk K C f ∧ FnOk P w K mg base (L2.CX P w) k f fd ps sp ∧ mg x = some (.ref C) ∧ Binds K fd ps ds ∧ Vals dvs ds
theorem mak_of {k : Nat} {C f : Addr} {x : Str} {sp : Sp} {dvs : List V} (h : Mk K C f) (hm : mg x = some (.ref C)) (o : CalA P w K mg base k f sp dvs) : Mak P w K mg base k x C sp dvs := by
  obtain ⟨fd, ps, ds, F, kp, b, d⟩ := o.ex
  exact ⟨f, fd, ps, ds, h, F, hm, b, d⟩
/-- an operator's method: a function in the class -/
structure Opm (P : Program) (w : World) (K : Fg) (mg : Str → Option Value) (base : Heap) (k : Nat) (C : Addr) (m : Str) (sp : Sp) : Prop where
  ex : ∃ (f : Addr) (fd : FuncData) (ps : List Str), Own K C m f ∧ PySem.W.fnIn K f = true ∧ FnOk P w K mg base (L2.CX P w) k f fd ps sp ∧ Binds K fd ps []
end
def opmB (C m : Str) : Fg → Bool := fun K => ownB C m K && PySem.W.fnIn K (At.a K (.met C m))
theorem Tx.opm {fx : List (Fg → Bool)} {fn : List DX} {K : Fg} {mg : Str → Option Value} (T : Tx fx fn K mg) (i : Nat) {C m : Str} (h : fx[i]? = some (opmB C m) := by rfl) : Own K (He.ga K C) m (At.a K (.met C m)) ∧ PySem.W.fnIn K (At.a K (.met C m)) = true := by
  obtain ⟨a, b⟩ := He.ba (T.says.fact i h)
  exact ⟨own_ok a, b⟩
theorem opm_of {P : Program} {w : World} {K : Fg} {mg : Str → Option Value} {base : Heap} {k : Nat} {C f : Addr} {m : Str} {sp : Sp} (h : Own K C m f ∧ PySem.W.fnIn K f = true) (o : CalA P w K mg base k f sp []) : Opm P w K mg base k C m sp := by
  obtain ⟨fd, ps, ds, F, kp, b, d⟩ := o.ex
  cases d
  exact ⟨f, fd, ps, h.1, h.2, F, b⟩

section
variable {X : Cx} {k j : Nat} {x f m : Str} {C : Addr} {sp : Sp} {dvs : List V} {p pos apos : Pos} {e o : Expr} {es : List Expr} {ta : TE} {t : TA} {E : XK}
theorem pe_prp (c : Prp X.prog X.w X.K X.mg X.base k C f sp) (hr : Room j X.A) (hk : k + 1 ≤ j) (he : PE X e ta) (hab : attributeBase e f X.env (eval e X.env) = eval e X.env) : PE X (.Attribute e f pos) (tProp C sp [] E0 ta) := by
  obtain ⟨p, g, fd, ps, c1, c2, F, b⟩ := c.ex
  exact pe_prop he c1 c2 F (hr.mono hk) b .nil passL hab
theorem pe_mak (c : Mak X.prog X.w X.K X.mg X.base k x C sp dvs) (hr : Room j X.A) (hk : k + 1 ≤ j) (hg : Gl X x) (ha : PA X (e :: es) t)
    (hdb : (x == ("__debug__" : Str)) = false := by decide) (he : starEach (e :: es) X.env = (false, eval e X.env) :: starEach es X.env := by rfl) (hpl : (backTo pos (starEach es X.env)).any (·.1) = false := by rfl) :
    PE X (.Call (.Name x p) (e :: es) [] pos) (tMake C sp dvs E0 t) := by
  obtain ⟨f, fd, ps, ds, M, F, hm, b, d⟩ := c.ex
  exact pe_make M F (hr.mono hk) hg hm b d passL ha hdb he hpl
theorem pe_mak0 (c : Mak X.prog X.w X.K X.mg X.base k x C sp dvs) (hr : Room j X.A) (hk : k + 1 ≤ j) (hg : Gl X x) (hdb : (x == ("__debug__" : Str)) = false := by decide) :
    PE X (.Call (.Name x p) [] [] pos) (tMake C sp dvs E0 tNil) := by
  obtain ⟨f, fd, ps, ds, M, F, hm, b, d⟩ := c.ex
  exact pe_make0 M F (hr.mono hk) hg hm b d passL hdb
theorem pe_met {pl : Sem Bool} (c : Met X.prog X.w X.K X.mg X.base k C m sp dvs) (hr : Room j X.A) (hk : k ≤ j) (he : PE X o ta) (ha : PA X (e :: es) t)
    (hst : starEach (e :: es) X.env = (false, eval e X.env) :: starEach es X.env := by rfl) (hpl : (backTo pos (starEach es X.env)).any (·.1) = false := by rfl)
    (ht : eval (.Call (.Attribute o m apos) (e :: es) [] pos) X.env = (do
      let ov ← eval o X.env
      standAt apos.atName
      let (f, first) ← holding [ov] (getMethod ov m pl)
      callWith pos f first (backTo pos (starEach (e :: es) X.env)) (backToKw pos (keywordEach [] X.env))) := by rfl) :
    PE X (.Call (.Attribute o m apos) (e :: es) [] pos) (tMeth C m sp dvs E0 ta t) := by
  obtain ⟨f, fd, ps, ds, hc, hm, F, b, d⟩ := c.ex
  exact pe_meth (pl := pl) he hc hm F (hr.mono hk) b d passL ha hst hpl ht
theorem pe_met0 {pl : Sem Bool} (c : Met X.prog X.w X.K X.mg X.base k C m sp dvs) (hr : Room j X.A) (hk : k ≤ j) (he : PE X o ta)
    (ht : eval (.Call (.Attribute o m apos) [] [] pos) X.env = (do
      let ov ← eval o X.env
      standAt apos.atName
      let (f, first) ← holding [ov] (getMethod ov m pl)
      callWith pos f first (backTo pos (starEach [] X.env)) (backToKw pos (keywordEach [] X.env))) := by rfl) :
    PE X (.Call (.Attribute o m apos) [] [] pos) (tMeth C m sp dvs E0 ta tNil) := by
  obtain ⟨f, fd, ps, ds, hc, hm, F, b, d⟩ := c.ex
  exact pe_meth0 (pl := pl) he hc hm F (hr.mono hk) b d passL ht
end

/-! ### keywords -/
/-- a def called with n values by place and the keywords ks; gV puts them in the parameters' order -/
structure CalK (P : Program) (w : World) (K : Fg) (mg : Str → Option Value) (base : Heap) (k : Nat) (f : Addr) (n : Nat) (ks : List Str) (gV : List V → List V → List V) (sp : Sp) : Prop where
  ex : ∃ (fd : FuncData) (ps : List Str) (g : List Value → List Value → List Value), FnOk P w K mg base (L2.CX P w) k f fd ps sp ∧ KBn K fd ps n ks g gV ∧ PySem.W.keepIn K (.ref f) = true
/-- .. of a class's __init__ -/
structure MakK (P : Program) (w : World) (K : Fg) (mg : Str → Option Value) (base : Heap) (k : Nat) (x : Str) (C : Addr) (n : Nat) (ks : List Str) (gV : List V → List V → List V) (sp : Sp) : Prop where
  ex : ∃ (f : Addr) (fd : FuncData) (ps : List Str) (g : List Value → List Value → List Value), Mk K C f ∧ FnOk P w K mg base (L2.CX P w) k f fd ps sp ∧ mg x = some (.ref C) ∧ KBn K fd ps (n + 1) ks g gV
section
variable {P : Program} {w : World} {K : Fg} {mg : Str → Option Value} {base : Heap}
theorem makK_of {k n : Nat} {C f : Addr} {x : Str} {ks : List Str} {gV : List V → List V → List V} {sp : Sp} (h : Mk K C f) (hm : mg x = some (.ref C)) (o : CalK P w K mg base k f (n + 1) ks gV sp) : MakK P w K mg base k x C n ks gV sp := by
  obtain ⟨fd, ps, g, F, b, kp⟩ := o.ex
  exact ⟨f, fd, ps, g, h, F, hm, b⟩
theorem fn_nox {x qual : Str} {params : Arguments} {body : List Stmt} {scope : Scope} {dvs : List V} {kws : List (Str × V)} {f : Addr} {fd : FuncData} {N ps : List Str} {k : Nat} {sp : Sp} (F : FunD K x qual params body scope dvs kws f fd) (S : FnScope N ps scope)
    (len : ∀ vs H Q E, sp vs H Q E → vs.length = ps.length)
    (walk : ∀ (cdv : Value) (A : Around) (outer : List Env) (s : Shared) (H : Hp) (vs : List V) (Q : VK) (E : XK), Room k (A.deeper (envOfC qual scope s.heap.objs.size f cdv)) → sp vs H Q E →
      ∃ t, PSs (cxOf (L2.CX P w) P w K mg base N qual scope f cdv A outer s H E).nox body t ∧ t { nx := fun _ H' => Q .non H', rt := Q } (start N vs) H) : FnOk P w K mg base (L2.CX P w) (k + 1) f fd ps sp :=
  F.ok S len fun cdv A outer s H vs Q E hr h => by
    obtain ⟨t, h1, h2⟩ := walk cdv A outer s H vs Q E hr h
    exact ⟨t, h1.nox, h2⟩
end
section
variable {X : Cx} {k j n : Nat} {x : Str} {C : Addr} {ks : List Str} {gV : List V → List V → List V} {sp : Sp} {p pos : Pos} {e : Expr} {es : List Expr} {kws : List Keyword} {t tk : TA}
theorem pe_makK (c : MakK X.prog X.w X.K X.mg X.base k x C n ks gV sp) (hr : Room j X.A) (hk : k + 1 ≤ j) (hg : Gl X x) (ha : PA X (e :: es) t) (hkw : PK X kws tk)
    (hall : (backToKw pos (keywordEach kws X.env)).all (·.1.isSome) = true := by rfl) (hks : (backToKw pos (keywordEach kws X.env)).filterMap (·.1) = ks := by rfl) (hdb : (x == ("__debug__" : Str)) = false := by decide)
    (he : starEach (e :: es) X.env = (false, eval e X.env) :: starEach es X.env := by rfl) (hpl : ((backTo pos (starEach (e :: es) X.env)).any (·.1) || (backToKw pos (keywordEach kws X.env)).any (·.1.isNone)) = false := by rfl) :
    PE X (.Call (.Name x p) (e :: es) kws pos) (tMakeK C n ks.length sp gV E0 t tk) := by
  obtain ⟨f, fd, ps, g, M, F, hm, b⟩ := c.ex
  exact pe_makeK M F (hr.mono hk) hg hm b passL ha hkw hall hks hdb he hpl
theorem pe_makK0 (c : MakK X.prog X.w X.K X.mg X.base k x C 0 ks gV sp) (hr : Room j X.A) (hk : k + 1 ≤ j) (hg : Gl X x) (hkw : PK X kws tk)
    (hall : (backToKw pos (keywordEach kws X.env)).all (·.1.isSome) = true := by rfl) (hks : (backToKw pos (keywordEach kws X.env)).filterMap (·.1) = ks := by rfl) (hdb : (x == ("__debug__" : Str)) = false := by decide)
    (hpl : ((backTo pos (starEach [] X.env)).any (·.1) || (backToKw pos (keywordEach kws X.env)).any (·.1.isNone)) = false := by rfl) :
    PE X (.Call (.Name x p) [] kws pos) (tMakeK C 0 ks.length sp gV E0 tNil tk) := by
  obtain ⟨f, fd, ps, g, M, F, hm, b⟩ := c.ex
  exact pe_makeK0 M F (hr.mono hk) hg hm b passL hkw hall hks hdb hpl
end

/-! ### own operators -/
theorem rel_ref (a : Addr) : RelV (.ref a) (.ref a) := rfl
section
variable {X : Cx} {pins : List (Addr × Obj)} {σ : L2.St} {H : Hp} {s : Shared} {a dx C : Addr} {fs : List (Str × V)} {k j : Nat} {m : Str} {sp : Sp}
theorem inst_at (I : Inv X pins σ H s) (e : H a = some (.ins C dx fs)) : ∃ ox od, PySem.W.InstAt s.heap a ox C (some od) := by
  obtain ⟨mA, O, _⟩ := ins_get I.hok e
  obtain ⟨od, J, _⟩ := O.look
  exact ⟨_, od, J⟩
/-- a def that lets nothing out, called somewhere within -/
theorem run_in {A' : Around} {f : Addr} {fd : FuncData} {ps : List Str} {us : List Value} {vs : List V} {Q : VK} (F : FnOk X.prog X.w X.K X.mg X.base (L2.CX X.prog X.w) k f fd ps sp) (b : Binds X.K fd ps []) (hr : Room k A')
    (I : Inv X pins σ H s) (e0 : Env0 X.prog X.w X.K X.mg X.base A' X.stack s H) (r : Vals vs us) (h : sp vs H Q E0) {E' : Value → Shared → Prop} : wpAny (model X.prog X.w) A' (call (.ref f) us) (EP X pins σ Q) E' s := by
  have hl : (us ++ []).length = ps.length := by
    rw [List.append_nil, ← r.length]
    exact F.len _ _ _ _ h
  have hb := b s us I.kIn hl
  rw [List.append_nil] at hb
  refine wpAny_call (codeAny_mono (F.run A' X.stack s H ⟨us, []⟩ us vs Q E0 hr e0 hb r h) fun r s' hq => ?_)
  cases r with
  | error er =>
    exact False.elim (passL (X := X.nox) pins σ H s er s' (I.wish _) hq)
  | ok fl =>
    cases fl with
    | ret u => exact I.after hq
    | next => exact False.elim hq
    | brk => exact False.elim hq
    | cont => exact False.elim hq
/-- what an operator's method promises at the object and further values -/
def rO1 (C : Addr) (sp : Sp) (G : V → Hp → VK → Prop) : List V → Hp → VK → Prop := fun xs H Q => ∃ a dx fs, xs = [.ref a] ∧ H a = some (.ins C dx fs) ∧ sp [.ref a] H (fun v H' => G v H' Q) E0
/-- len(o) -/
def gLen : V → Hp → VK → Prop := fun v H Q => ∃ n : Int, v = .int n ∧ (0 ≤ n ∧ n < 2 ^ 63) ∧ Q (.int n) H
theorem call_lenO (c : Opm X.prog X.w X.K X.mg X.base k C "__len__" sp) (hr : Room j X.A) (hk : k + 1 ≤ j) : CallR X (.builtin "len") (rO1 C sp gLen) := by
  intro pins s σ H xs us Q I r h
  obtain ⟨f, fd, ps, O, _, F, b⟩ := c.ex
  obtain ⟨a, dx, fs, rfl, ha, q⟩ := h
  obtain ⟨m, hF⟩ := I.fr
  obtain ⟨ox, od, J⟩ := inst_at I ha
  rw [show us = [.ref a] from by cases r with | cons r1 r2 => cases r2; cases r1; rfl]
  refine PySem.W.len_K hF I.mod.kin J O.at_ O.fn (thn (run_in F b (hr.mono hk).in1 I I.env0.in1 (.cons (rel_ref a) .nil) q) fun u s1 ⟨v, H1, I1, rv, n, ev, hn, q1⟩ => ?_)
  subst ev
  obtain ⟨t, rfl⟩ := rv
  exact ⟨hn, .int n, H1, I1.tok _, ⟨_, rfl⟩, q1⟩
/-- str(o) -/
def gStr : V → Hp → VK → Prop := fun v H Q => ∃ z : Str, v = .str z ∧ Q (.str z) H
theorem Room.in2 {k : Nat} {A : Around} (r : Room (k + 1) A) : Room k A.in1.in1 := ⟨r.hd, by have := r.dp; show A.depth + 3 * k + 5 < _; omega, by have := r.un; show A.units + 1 + 1 + 16 * k + 200 < _; omega⟩
theorem call_strO (c : Opm X.prog X.w X.K X.mg X.base k C "__str__" sp) (hr : Room j X.A) (hk : k + 1 ≤ j) : CallR X (.type "str") (rO1 C sp gStr) := by
  intro pins s σ H xs us Q I r h
  obtain ⟨f, fd, ps, O, _, F, b⟩ := c.ex
  obtain ⟨a, dx, fs, rfl, ha, q⟩ := h
  obtain ⟨ox, od, J⟩ := inst_at I ha
  rw [show us = [.ref a] from by cases r with | cons r1 r2 => cases r2; cases r1; rfl]
  refine PySem.W.kso_call (by have := (Room.in2 (hr.mono hk)).units0; exact this) I.kIn J O.at_ O.fn (thn (run_in F b (Room.in2 (hr.mono hk)) I I.env0.in1.in1 (.cons (rel_ref a) .nil) q) fun u s1 ⟨v, H1, I1, rv, z, ev, q1⟩ => ?_)
  subst ev
  obtain ⟨t, rfl⟩ := rv
  exact ⟨.str z, H1, I1, ⟨_, rfl⟩, q1⟩
/-- o[i] = v -/
def rSetO (C : Addr) (sp : Sp) : TSet := fun o i v H Q => ∃ a dx fs, o = .ref a ∧ H a = some (.ins C dx fs) ∧ sp [.ref a, i, v] H (fun _ H' => Q H') E0
def noseqB (C : Str) : Fg → Bool := fun K => PySem.W.noSeq K (He.ga K C)
theorem Tx.noseq {fx : List (Fg → Bool)} {fn : List DX} {K : Fg} {mg : Str → Option Value} (T : Tx fx fn K mg) (i : Nat) {C : Str} (h : fx[i]? = some (noseqB C) := by rfl) : PySem.W.noSeq K (He.ga K C) = true := T.says.fact i h
theorem set_own (c : Opm X.prog X.w X.K X.mg X.base k C "__setitem__" sp) (n : PySem.W.noSeq X.K C = true) (hr : Room j X.A) (hk : k ≤ j) : PSet X (rSetO C sp) := by
  intro pins s σ H o i v ov iv u Q I ro ri rv h
  obtain ⟨f, fd, ps, O, _, F, b⟩ := c.ex
  obtain ⟨a, dx, fs, rfl, ha, q⟩ := h
  obtain ⟨m, hF⟩ := I.fr
  obtain ⟨ox, od, J⟩ := inst_at I ha
  cases ro
  exact PySem.W.ksp_setItem hF I.mod.kin J n O.at_ O.fn (thn (run_in F b (hr.mono hk) I I.env0 (.cons (rel_ref a) (.cons ri (.cons rv .nil))) q) fun u s1 ⟨v, H1, I1, rv, q1⟩ => ⟨H1, I1, q1⟩)
/-- o[i] -/
def rGetO (C : Addr) (sp : Sp) : R2 := fun x y H Q => ∃ a dx fs, x = .ref a ∧ H a = some (.ins C dx fs) ∧ sp [.ref a, y] H Q E0
theorem pe_getO {value slice : Expr} {pos : Pos} {ta tb : TE} (c : Opm X.prog X.w X.K X.mg X.base k C "__getitem__" sp) (hr : Room j X.A) (hk : k + 1 ≤ j) (ha : PE X value ta) (hb : PE X slice tb)
    (hsl : ∀ x i, subscripted slice true (.ref x) i = runValue (.builtin "lifetime.subscript" ⟨[.ref x, i], []⟩) := by intros; with_unfolding_all rfl) : PE X (.Subscript value slice pos) (tOp (rGetO C sp) ta tb) := by
  refine ⟨fun pins s σ H Q I h => ?_⟩
  refine Subscript_ (binT ha hb I h fun v u s2 x y H2 I2 rx ry q => ?_)
  obtain ⟨f, fd, ps, O, fi, F, b⟩ := c.ex
  obtain ⟨a, dx, fs, rfl, ea, q⟩ := q
  obtain ⟨m, hF⟩ := I2.fr
  obtain ⟨ox, od, J⟩ := inst_at I2 ea
  cases rx
  exact PySem.W.sub_K hF I2.mod.kin J O.at_ fi O.fn (run_in F b (hr.mono hk).in1 I2 I2.env0.in1 (.cons (rel_ref a) (.cons ry .nil)) q) (hsl _ _)
/-- v in o -/
def rInO (C : Addr) (sp : Sp) (neg : Bool) : R2 := fun x y H Q => ∃ a dx fs, y = .ref a ∧ H a = some (.ins C dx fs) ∧ sp [.ref a, x] H (fun v H' => ∃ b, v = .bl b ∧ Q (.bl (if neg then !b else b)) H') E0
theorem op_inO (c : Opm X.prog X.w X.K X.mg X.base k C "__contains__" sp) (hr : Room j X.A) (hk : k ≤ j) : OpR X (compareOp .In) (rInO C sp false) := by
  intro pins s σ H x y v u Q I rx ry h
  obtain ⟨f, fd, ps, O, _, F, b⟩ := c.ex
  obtain ⟨a, dx, fs, rfl, ha, q⟩ := h
  obtain ⟨m, hF⟩ := I.fr
  obtain ⟨ox, od, J⟩ := inst_at I ha
  cases ry
  refine PySem.W.in_K hF I.mod.kin J O.at_ O.fn (thn (run_in F b (hr.mono hk) I I.env0 (.cons (rel_ref a) (.cons rx .nil)) q) fun u s1 ⟨v, H1, I1, rv, bb, ev, q1⟩ => ?_)
  subst ev
  cases rv
  exact wpAny_truthy_bool ⟨.bl bb, H1, I1, rfl, q1⟩
theorem op_notInO (c : Opm X.prog X.w X.K X.mg X.base k C "__contains__" sp) (hr : Room j X.A) (hk : k ≤ j) : OpR X (compareOp .NotIn) (rInO C sp true) := by
  intro pins s σ H x y v u Q I rx ry h
  obtain ⟨f, fd, ps, O, _, F, b⟩ := c.ex
  obtain ⟨a, dx, fs, rfl, ha, q⟩ := h
  obtain ⟨m, hF⟩ := I.fr
  obtain ⟨ox, od, J⟩ := inst_at I ha
  cases ry
  refine PySem.W.notIn_K hF I.mod.kin J O.at_ O.fn (thn (run_in F b (hr.mono hk) I I.env0 (.cons (rel_ref a) (.cons rx .nil)) q) fun u s1 ⟨v, H1, I1, rv, bb, ev, q1⟩ => ?_)
  subst ev
  cases rv
  exact wpAny_truthy_bool ⟨.bl (!bb), H1, I1, rfl, q1⟩
/-- o as a test, by __bool__ -/
def tTruO (C : Addr) (sp : Sp) (ta : TE) : TT := fun σ H Q => ta σ H fun x H1 => ∃ a dx fs, x = .ref a ∧ H1 a = some (.ins C dx fs) ∧ sp [.ref a] H1 (fun v H' => ∃ b, v = .bl b ∧ Q b H') E0
theorem pt_truO {e : Expr} {ta : TE} (c : Opm X.prog X.w X.K X.mg X.base k C "__bool__" sp) (hr : Room j X.A) (hk : k ≤ j) (he : PE X e ta) (hi : ∀ whole, isTrue e X.env whole = (do let v ← whole; standAt e.pos; holding [v] (truthy v)) := by intro _; rfl) : PT X e (tTruO C sp ta) := by
  refine ⟨fun pins s σ H Q I h => ?_⟩
  refine isTrue_plain (thn (he.run pins s σ H _ I h) fun v s1 ⟨x, H1, I1, r1, a, dx, fs, ex, ea, q⟩ => ?_) (hi _)
  obtain ⟨f, fd, ps, O, _, F, b⟩ := c.ex
  obtain ⟨m, hF⟩ := I1.fr
  obtain ⟨ox, od, J⟩ := inst_at I1 ea
  subst ex
  cases r1
  refine PySem.W.truthy_K hF I1.mod.kin J O.at_ O.fn (thn (run_in F b (hr.mono hk) I1 I1.env0 (.cons (rel_ref a) .nil) q) fun u s1 ⟨v, H1, I1, rv, bb, ev, q1⟩ => ?_)
  subst ev
  cases rv
  exact ⟨H1, I1, q1⟩
end
/-! ### kinds of values -/
theorem tyOf_ex {K : Fg} {H H' : Hp} (e : Ex H H') {x : V} {t : Value} (h : TyOf K H x t) : TyOf K H' x t := by
  cases h with
  | non => exact .non
  | bl b => exact .bl b
  | int i => exact .int i
  | str z => exact .str z
  | flt b => exact .flt b
  | lst h => exact .lst (e _ _ h)
  | frz h => exact .frz (e _ _ h)
  | tup h => exact .tup (e _ _ h)
  | dK h => exact .dK (e _ _ h)
  | dT h => exact .dT (e _ _ h)
  | ins h a b c d f => exact .ins (e _ _ h) a b c d f
theorem tyX_ex {K : Fg} {H H' : Hp} (e : Ex H H') {x : V} {t : Value} (h : TyX K H x t) : TyX K H' x t := by
  cases h with
  | base h => exact .base (tyOf_ex e h)
  | byt b => exact .byt b
  | set h => exact .set (e _ _ h)
  | kList a b => exact .kList a b
  | kTuple a b => exact .kTuple a b
  | kDict a b => exact .kDict a b
  | fTuple h => exact .fTuple (e _ _ h)
  | fDict h => exact .fDict (e _ _ h)
theorem isB_ex {K : Fg} {H H' : Hp} {x : V} {T : String} {b : Bool} (h : IsB K H x T b) (e : Ex H H') : IsB K H' x T b := by
  obtain ⟨t, h1, h2⟩ := h
  exact ⟨t, tyX_ex e h1, h2⟩
theorem isC_ex {K : Fg} {H H' : Hp} {x : V} {C : Addr} {b : Bool} (h : IsC K H x C b) (e : Ex H H') : IsC K H' x C b := by
  obtain ⟨t, h1, h2⟩ := h
  exact ⟨t, tyX_ex e h1, h2⟩
section
variable {K : Fg} {H : Hp}
theorem isB_str {z : Str} : IsB K H (.str z) "str" true := ⟨_, .base (.str z), kit_ty (by decide +kernel)⟩
theorem isB_int {i : Int} : IsB K H (.int i) "int" true := ⟨_, .base (.int i), kit_ty (by decide +kernel)⟩
theorem isB_intb {i : Int} : IsB K H (.int i) "bool" false := ⟨_, .base (.int i), kit_ty (by decide +kernel)⟩
theorem isB_bl {b : Bool} : IsB K H (.bl b) "int" true := ⟨_, .base (.bl b), kit_ty (by decide +kernel)⟩
theorem isB_blb {b : Bool} : IsB K H (.bl b) "bool" true := ⟨_, .base (.bl b), kit_ty (by decide +kernel)⟩
theorem isB_tup {a : Addr} {xs : List V} (h : H a = some (.tup xs)) : IsB K H (.ref a) "tuple" true := ⟨_, .base (.tup h), kit_ty (by decide +kernel)⟩
end
end RV

/-! RvE: what readings evaluate to where nothing that stood is changed. -/
namespace RV
open PySem PySem.Spec PyProof.Rows L2 Evl

/-- a value with something true of it and the heap behind -/
def EvP (te : TE) (σ : L2.St) (H : Hp) (P : V → Hp → Prop) : Prop := ∀ H1, Ex H H1 → ∀ Q : VK, (∀ v H2, Ex H1 H2 → P v H2 → Q v H2) → te σ H1 Q
def EvAP (ta : TA) (σ : L2.St) (H : Hp) (P : List V → Hp → Prop) : Prop := ∀ H1, Ex H H1 → ∀ Q : List V → Hp → Prop, (∀ vs H2, Ex H1 H2 → P vs H2 → Q vs H2) → ta σ H1 Q
def SpP (sp : Sp) (vs : List V) (H : Hp) (P : V → Hp → Prop) : Prop := ∀ H1, Ex H H1 → ∀ Q : VK, (∀ v H2, Ex H1 H2 → P v H2 → Q v H2) → ∀ E : XK, sp vs H1 Q E
/-- it stays where heaps grow -/
def Mon {α : Type} (P : α → Hp → Prop) : Prop := ∀ x H H', Ex H H' → P x H → P x H'

section
variable {K : Fg} {σ : L2.St} {H H' : Hp} {ta tb te tx : TE} {t u : TT} {x y z v : V} {r : R2} {P : V → Hp → Prop} {sp : Sp}
theorem EvP.mono (e : Ex H H') (h : EvP te σ H P) : EvP te σ H' P := fun H1 a Q q => h H1 (e.trans a) Q q
theorem EvP.imp {P' : V → Hp → Prop} (h : EvP te σ H P) (i : ∀ v H2, Ex H H2 → P v H2 → P' v H2) : EvP te σ H P' := fun H1 e Q q => h H1 e Q fun v H2 e2 p => q v H2 e2 (i v H2 (e.trans e2) p)
theorem evp_v (h : Ev te σ H v) : EvP te σ H fun x _ => x = v := fun H1 e Q q => h H1 e Q fun H2 e2 => q v H2 e2 rfl
theorem ev_of (h : EvP te σ H fun x _ => x = v) : Ev te σ H v := fun H1 e Q q => h H1 e Q fun x H2 e2 p => by
  subst p
  exact q H2 e2
theorem evp_if {b : Bool} (h : EvT t σ H b) (h1 : b = true → EvP ta σ H P) (h2 : b = false → EvP tb σ H P) : EvP (tIf t ta tb) σ H P := fun H1 e Q q => h H1 e _ fun H2 e2 => by
  cases b with
  | true =>
    show ta σ H2 Q
    exact h1 rfl H2 (e.trans e2) Q fun v H3 e3 p => q v H3 (e2.trans e3) p
  | false =>
    show tb σ H2 Q
    exact h2 rfl H2 (e.trans e2) Q fun v H3 e3 p => q v H3 (e2.trans e3) p
/-! ### argument lists -/
theorem eap_nil : EvAP tNil σ H fun vs _ => vs = [] := fun H1 _ _ q => q [] H1 (Ex.refl H1) rfl
theorem eap_cons {tr : TA} {P' : List V → Hp → Prop} (hm : Mon P) (h : EvP ta σ H P) (hr : EvAP tr σ H P') : EvAP (tCons ta tr) σ H fun vs H2 => ∃ v r, vs = v :: r ∧ P v H2 ∧ P' r H2 := fun H1 e Q q =>
  h H1 e _ fun v H2 e2 p => hr H2 (e.trans e2) _ fun vs H3 e3 p' => q _ H3 (e2.trans e3) ⟨v, vs, rfl, hm v H2 H3 e3 p, p'⟩
theorem eap_of {vs : List V} {tr : TA} (h : EvA tr σ H vs) : EvAP tr σ H fun ws _ => ws = vs := fun H1 e Q q => h H1 e Q fun H2 e2 => q vs H2 e2 rfl
/-! ### calls -/
theorem evp_call {dvs vs : List V} {E : XK} {tr : TA} (h : EvA tr σ H vs) (hs : SpP sp (vs ++ dvs) H P) : EvP (tCall sp dvs E tr) σ H P := fun H1 e Q q =>
  h H1 e _ fun H2 e2 => hs H2 (e.trans e2) Q (fun v H3 e3 p => q v H3 (e2.trans e3) p) E
theorem evp_callP {dvs : List V} {E : XK} {tr : TA} {A : List V → Hp → Prop} (h : EvAP tr σ H A) (hs : ∀ vs H1, Ex H H1 → A vs H1 → SpP sp (vs ++ dvs) H1 P) : EvP (tCall sp dvs E tr) σ H P := fun H1 e Q q =>
  h H1 e _ fun vs H2 e2 a => hs vs H2 (e.trans e2) a H2 (Ex.refl H2) Q (fun v H3 e3 p => q v H3 (e2.trans e3) p) E
theorem ev_prp {C a dx : Addr} {fs : List (Str × V)} {dvs : List V} {E : XK} (h : Ev ta σ H (.ref a)) (ho : H a = some (.ins C dx fs)) (hs : SpV sp (.ref a :: dvs) H z) : Ev (tProp C sp dvs E ta) σ H z := fun H1 e Q q =>
  h H1 e _ fun H2 e2 => ⟨a, dx, fs, rfl, (e.trans e2) a _ ho, hs H2 (e.trans e2) Q (fun H3 e3 => q H3 (e2.trans e3)) E⟩
theorem ev_fld {C a dx : Addr} {f : Str} {fs : List (Str × V)} (h : Ev ta σ H (.ref a)) (ho : H a = some (.ins C dx fs)) (c : Cls K C) (n : NoAttr K C f) (l : fs.lookup f = some z) : Ev (tFld K ta f) σ H z := fun H1 e Q q =>
  h H1 e _ fun H2 e2 => ⟨a, C, dx, fs, z, rfl, (e.trans e2) a _ ho, c, n, l, q H2 e2⟩
theorem ev_meth {C a dx : Addr} {m : Str} {fs : List (Str × V)} {dvs vs : List V} {E : XK} {tr : TA} (h : Ev ta σ H (.ref a)) (ho : H a = some (.ins C dx fs)) (l : fs.lookup m = none) (ha : EvA tr σ H vs) (hs : SpV sp (.ref a :: (vs ++ dvs)) H z) : Ev (tMeth C m sp dvs E ta tr) σ H z := fun H1 e Q q =>
  h H1 e _ fun H2 e2 => ⟨a, dx, fs, rfl, (e.trans e2) a _ ho, l, ha H2 (e.trans e2) _ fun H3 e3 => hs H3 ((e.trans e2).trans e3) Q (fun H4 e4 => q H4 ((e2.trans e3).trans e4)) E⟩
theorem ev_cbP {rr : List V → Hp → VK → Prop} {tr : TA} {A : List V → Hp → Prop} (h : EvAP tr σ H A) (hr : ∀ vs H1, Ex H H1 → A vs H1 → RC rr vs H1 z) : Ev (tCB rr tr) σ H z := fun H1 e Q q =>
  h H1 e _ fun vs H2 e2 a => hr vs H2 (e.trans e2) a H2 (Ex.refl H2) Q fun H3 e3 => q H3 (e2.trans e3)
/-- a new instance: what its __init__ promises of it -/
theorem evp_make {C : Addr} {dvs vs : List V} {E : XK} {tr : TA} (h : EvA tr σ H vs)
    (hs : ∀ H1, Ex H H1 → ∀ x dx, H1 x = none → H1 dx = none → dx ≠ x → ∀ Q : VK, (∀ H2, Ex H1 H2 → P (.ref x) H2 → Q (.ref x) H2) → ∀ E : XK, sp (.ref x :: (vs ++ dvs)) (upd (upd H1 dx (.own x)) x (.ins C dx [])) (fun v H2 => v = .non ∧ Q (.ref x) H2) E) :
    EvP (tMake C sp dvs E tr) σ H P := fun H1 e Q q =>
  h H1 e _ fun H2 e2 => fun x dx n1 n2 n3 => hs H2 (e.trans e2) x dx n1 n2 n3 Q (fun H3 e3 p => q _ H3 (e2.trans e3) p) E
/-- the heap behind a making, where only the instance was written -/
theorem ex_made {H1 H2 : Hp} {x dx : Addr} {o u : HO} (n1 : H1 x = none) (n2 : H1 dx = none) (h : But [x] (upd (upd H1 dx o) x u) H2) : Ex H1 H2 := fun b w e => by
  have hx : b ≠ x := ne_of_none e n1
  have hd : b ≠ dx := ne_of_none e n2
  exact h b w (by rw [upd_ne hx, upd_ne hd]; exact e) (by simpa using hx)
/-! ### comparisons, texts -/
theorem ev_chain {r' : R2} {tc : TE} {b1 b2 : Bool} (ha : Ev ta σ H x) (hb : Ev tb σ H y) (hr : RV r x y H (.bl b1)) (hc : b1 = true → Ev (tOp r' (tC y) tc) σ H (.bl b2)) : Ev (tChain r r' ta tb tc) σ H (.bl (b1 && b2)) := fun H1 e Q q =>
  ha H1 e _ fun H2 e2 => hb H2 (e.trans e2) _ fun H3 e3 => hr H3 ((e.trans e2).trans e3) _ fun H4 e4 => ⟨b1, rfl, by
    cases b1 with
    | true =>
      rw [if_pos rfl]
      exact hc rfl H4 (((e.trans e2).trans e3).trans e4) Q fun H5 e5 => q H5 (((e2.trans e3).trans e4).trans e5)
    | false =>
      rw [if_neg Bool.false_ne_true]
      exact q H4 ((e2.trans e3).trans e4)⟩
theorem rv_inS {c : Nat} {w : Str} : RV rInS (.str ⟨#[c]⟩) (.str w) H (.bl (decide (c ∈ w.cps.toList))) := fun H1 _ _ q => ⟨c, w, rfl, rfl, q H1 (Ex.refl H1)⟩
theorem rv_ninS {c : Nat} {w : Str} : RV rNotInS (.str ⟨#[c]⟩) (.str w) H (.bl (!decide (c ∈ w.cps.toList))) := fun H1 _ _ q => ⟨c, w, rfl, rfl, q H1 (Ex.refl H1)⟩
theorem rv_adS {a b : Str} (h : a.length + b.length ≤ 100000) : RV (fun x y H Q => ∃ i j, x = V.str i ∧ y = .str j ∧ i.length + j.length ≤ sizeLine ∧ Q (.str (i ++ j)) H) (.str a) (.str b) H (.str (a ++ b)) := fun H1 _ _ q => ⟨a, b, rfl, rfl, sz2 h, q H1 (Ex.refl H1)⟩
theorem rc_lenS {w : Str} (h : w.length ≤ 100000) : RC (fun xs H Q => ∃ x : Str, xs = [.str x] ∧ x.length ≤ sizeLine ∧ Q (.int x.length) H) [.str w] H (.int w.length) := fun H1 _ _ q => ⟨w, rfl, sz2 h, q H1 (Ex.refl H1)⟩
theorem rc_isB {T : String} {b : Bool} (hm : ∀ H1, Ex H H1 → IsB K H1 x T b) : RC (rIsB K) [x, .ty T] H (.bl b) := fun H1 e _ q => ⟨x, T, b, rfl, hm H1 e, q H1 (Ex.refl H1)⟩
theorem rc_isC {C : Addr} {b : Bool} (hm : ∀ H1, Ex H H1 → IsC K H1 x C b) : RC (rIsC K) [x, .ref C] H (.bl b) := fun H1 e _ q => ⟨x, C, b, rfl, hm H1 e, q H1 (Ex.refl H1)⟩
theorem rv_isN : RV (fun x y H Q => y = V.non ∧ Q (.bl (decide (x = .non))) H) x .non H (.bl (decide (x = .non))) := fun H1 _ _ q => ⟨rfl, q H1 (Ex.refl H1)⟩
theorem rv_notN : RV (fun x y H Q => y = V.non ∧ Q (.bl (!decide (x = .non))) H) x .non H (.bl (!decide (x = .non))) := fun H1 _ _ q => ⟨rfl, q H1 (Ex.refl H1)⟩
/-! ### what is walked -/
/-- a walk that gives xs one after another, whatever grows beside it -/
def EvS (wi : TI) (σ : L2.St) (H : Hp) (xs : List V) : Prop := ∀ H1, Ex H H1 → ∀ R : It → Hp → Prop,
  (∀ (J : It) (H2 : Hp) (G : Hp → Prop), Ex H1 H2 → Walk J xs.length G (YAt xs) → (∀ H3, Ex H2 H3 → G H3) → R J H2) → wi σ H1 R
theorem evs_tup {a : Addr} {xs : List V} (h : Ev te σ H (.ref a)) (hx : SqT K H a xs) : EvS (iTup K te) σ H xs := fun H1 e R k =>
  h H1 e _ fun H2 e2 => ⟨a, rfl, ⟨xs, ex_t (e.trans e2) hx⟩, k _ H2 _ e2 walk_tup fun H3 e3 => ex_t ((e.trans e2).trans e3) hx⟩
theorem evs_list {a : Addr} {xs : List V} (h : Ev te σ H (.ref a)) (hx : SqL K H a xs) : EvS (iList K te) σ H xs := fun H1 e R k =>
  h H1 e _ fun H2 e2 => ⟨a, rfl, ⟨xs, ex_l (e.trans e2) hx⟩, k _ H2 _ e2 walk_list fun H3 e3 => ex_l ((e.trans e2).trans e3) hx⟩
theorem evs_listN {xs : List V} (h : EvL te σ H xs) : EvS (iList K te) σ H xs := fun H1 e R k =>
  h H1 e _ fun p H2 hp e2 h2 => ⟨p, rfl, ⟨xs, sq_of h2⟩, k _ H2 _ e2 walk_list fun H3 e3 => ex_l e3 (sq_of h2)⟩
theorem evs_tupN {xs : List V} (h : EvU te σ H xs) : EvS (iTup K te) σ H xs := fun H1 e R k =>
  h H1 e _ fun p H2 hp e2 h2 => ⟨p, rfl, ⟨xs, st_of h2⟩, k _ H2 _ e2 walk_tup fun H3 e3 => ex_t e3 (st_of h2)⟩
/-- the signs of a text as values -/
def signs (w : Str) : List V := w.cps.toList.map fun c => .str ⟨#[c]⟩
theorem evs_str {w : Str} (h : Ev te σ H (.str w)) : EvS (iStr te) σ H (signs w) := fun H1 e R k =>
  h H1 e _ fun H2 e2 => ⟨w, rfl, k _ H2 (fun _ => True) e2 (by
    have el : (signs w).length = w.cps.size := by simp [signs]
    rw [el]
    refine walk_str.mono (fun _ z => z) fun i H x H' hi _ y => ?_
    obtain ⟨y1, c, y2, y3⟩ := y
    refine ⟨y1, ?_⟩
    subst y3
    simp [signs, y2]) fun _ _ => trivial⟩
theorem evs_range {tr : TA} {n : Nat} (h : EvA tr σ H [.int n]) (hn : n ≤ 100000) : EvS (iRng1 tr) σ H ((List.range n).map fun i => .int (i : Nat)) := fun H1 e R k =>
  h H1 e _ fun H2 e2 => ⟨n, rfl, by omega, by omega, k _ H2 (fun _ => True) e2 (by
    have el : ((List.range n).map fun i => V.int (i : Nat)).length = n := by simp
    have en : ((n : Nat) : Int).toNat = n := by omega
    rw [el, en]
    refine walk_range.mono (fun _ z => z) fun i H x H' hi _ y => ?_
    obtain ⟨y1, y2⟩ := y
    refine ⟨y1, ?_⟩
    subst y2
    simp [hi]) fun _ _ => trivial⟩
/-! ### fields -/
theorem lk1 {f : Str} {v : V} {r : List (Str × V)} : List.lookup f ((f, v) :: r) = some v := by simp
theorem lk2 {f g : Str} {v : V} {r : List (Str × V)} (h : decide (g = f) = false) : List.lookup g ((f, v) :: r) = List.lookup g r := by
  have h1 : ¬ g = f := of_decide_eq_false h
  have h2 : (g == f) = false := by simpa using h1
  rw [List.lookup_cons, h2]
/-! ### items -/
theorem atI_k {α : Type} {xs : List α} {k : Nat} {v : α} (h : xs[k]? = some v) : atI xs ((k : Nat) : Int) = some v := by
  have hk : k < xs.length := (List.getElem?_eq_some_iff.mp h).1
  unfold atI ixN
  rw [if_pos (by omega), if_pos (by omega), Option.bind_some]
  rw [show ((k : Nat) : Int).toNat = k by omega]
  exact h
theorem not_and_false {a b : Bool} (h : (!(a && b)) = true) : (a && b) = false := by
  cases a <;> cases b <;> first | rfl | cases h
theorem not_and_true {a b : Bool} (h : (!(a && b)) = false) : (a && b) = true := by
  cases a <;> cases b <;> first | rfl | cases h
/-! ### list comprehensions -/
/-- all but lists stays -/
def Ei (H H' : Hp) : Prop := ∀ b o, H b = some o → (∀ xs, o ≠ .lst xs) → H' b = some o
theorem Ei.trans {H H1 H2 : Hp} (a : Ei H H1) (b : Ei H1 H2) : Ei H H2 := fun x o h n => b x o (a x o h n) n
theorem ei_ex {H H1 : Hp} (a : Ex H H1) : Ei H H1 := fun x o h _ => a x o h
theorem ei_lst {H : Hp} {D : Addr} {ys zs : List V} (h : H D = some (.lst ys)) : Ei H (upd H D (.lst zs)) := fun b o e n => by
  rw [upd_ne fun z => by
    subst z
    rw [h] at e
    exact n ys (Option.some.inj e).symm]
  exact e
/-- the elements told for the kept items -/
def Each {α : Type} (P : α → V → Hp → Prop) (H : Hp) : List α → List V → Prop := Paired fun a y => P a y H
theorem Each.mono {α : Type} {P : α → V → Hp → Prop} (hm : ∀ a y H H', Ei H H' → P a y H → P a y H') {H H' : Hp} (e : Ei H H') {as : List α} {ys : List V} (h : Each P H as ys) : Each P H' as ys := Paired.mapP h fun a y p => hm a y H H' e p
theorem Each.snoc {α : Type} {P : α → V → Hp → Prop} {H : Hp} {a : α} {y : V} (p : P a y H) : ∀ {as : List α} {ys : List V}, Each P H as ys → Each P H (as ++ [a]) (ys ++ [y])
  | _, _, .nil => .cons p .nil
  | _, _, .cons r t => .cons r (Each.snoc p t)
theorem Each.map {α : Type} {f : α → V} {H' : Hp} : ∀ {as : List α} {ys : List V}, Each (fun a y _ => y = f a) H' as ys → ys = as.map f
  | _, _, .nil => rfl
  | _, _, .cons r t => by rw [List.map_cons, r, Each.map (f := f) (H' := H') t]
theorem take_succ_filter {α : Type} {l : List α} {i : Nat} {a : α} (f : α → Bool) (h : l[i]? = some a) : (l.take (i + 1)).filter f = (l.take i).filter f ++ (if f a then [a] else []) := by
  rw [List.take_succ, h, List.filter_append]
  simp only [Option.toList_some, List.filter_cons, List.filter_nil]
/-- [te for NAME in .. if t]: items tells the walked values -/
theorem elp_lc {α : Type} {wi : TI} {j : Nat} {vs : List Nat} {xs : List V} (items : List α) (f : α → Bool) (P : α → V → Hp → Prop) (hm : ∀ a y H H', Ei H H' → P a y H → P a y H')
    (hS : EvS wi σ H xs) (hl : xs.length = items.length) (hz : xs.length ≤ 50000) (hw : ∀ x, wipe ((wipe σ vs).set j (some x)) vs = wipe σ vs)
    (step : ∀ (i : Nat) (x : V) (a : α) H1, Ex H H1 → xs[i]? = some x → items[i]? = some a → EvT t ((wipe σ vs).set j (some x)) H1 (f a) ∧ (f a = true → EvP te ((wipe σ vs).set j (some x)) H1 (P a))) :
    ∀ H1, Ex H H1 → ∀ Q : VK, (∀ p ys H2, H1 p = none → Ex H1 H2 → H2 p = some (.lst ys) → Each P H2 (items.filter f) ys → Q (.ref p) H2) → tLc wi (gName j) t te vs σ H1 Q := fun H1 e Q q =>
  hS H1 e _ fun J H2 G e2 hW hG D hD => by
    refine lc_it hW (fun i H' => ∃ ys, Ex H2 H' ∧ H' D = some (.lst ys) ∧ ys.length ≤ i ∧ Each P H' ((items.take i).filter f) ys) ⟨[], Ex.new hD, upd_same, Nat.zero_le _, .nil⟩ (fun i H' _ p => ?_) (fun i x H' H'' hi p y => ?_) fun H' p => ?_
    · obtain ⟨ys, p1, _⟩ := p
      exact hG H' p1
    · obtain ⟨ys, p1, p2, p3, p4⟩ := p
      obtain ⟨rfl, hx⟩ := y
      obtain ⟨a, ha⟩ : ∃ a, items[i]? = some a := ⟨items[i]'(by omega), by simp [show i < items.length by omega]⟩
      obtain ⟨s1, s2⟩ := step i x a H'' ((e.trans e2).trans p1) hx ha
      refine ⟨hw x, s1 H'' (Ex.refl _) _ fun H3 e3 => ?_⟩
      cases hf : f a with
      | true =>
        rw [if_pos rfl]
        refine s2 hf H3 e3 _ fun y H4 e4 py => ⟨ys, e4 D _ (e3 D _ p2), sz_lt (by omega), ys ++ [y], (Ex.mut ((p1.trans e3).trans e4) hD), upd_same, by simp; omega, ?_⟩
        rw [take_succ_filter f ha, hf, if_pos rfl]
        exact (Each.snoc py (p4.mono hm (ei_ex (e3.trans e4)))).mono hm (ei_lst (e4 D _ (e3 D _ p2)))
      | false =>
        rw [if_neg Bool.false_ne_true]
        refine ⟨ys, p1.trans e3, e3 D _ p2, by omega, ?_⟩
        rw [take_succ_filter f ha, hf, if_neg Bool.false_ne_true, List.append_nil]
        exact p4.mono hm (ei_ex e3)
    · obtain ⟨ys, p1, p2, p3, p4⟩ := p
      rw [hl, List.take_length] at p4
      exact q D ys H' (fresh_back e2 hD) (e2.trans p1) p2 p4
/-- .. the elements by a function of the items -/
theorem el_lc {α : Type} {wi : TI} {j : Nat} {vs : List Nat} {xs : List V} (items : List α) (f : α → Bool) (g : α → V)
    (hS : EvS wi σ H xs) (hl : xs.length = items.length) (hz : xs.length ≤ 50000) (hw : ∀ x, wipe ((wipe σ vs).set j (some x)) vs = wipe σ vs)
    (step : ∀ (i : Nat) (x : V) (a : α) H1, Ex H H1 → xs[i]? = some x → items[i]? = some a → EvT t ((wipe σ vs).set j (some x)) H1 (f a) ∧ (f a = true → Ev te ((wipe σ vs).set j (some x)) H1 (g a))) :
    EvL (tLc wi (gName j) t te vs) σ H ((items.filter f).map g) := fun H1 e Q q =>
  elp_lc items f (fun a y _ => y = g a) (fun _ _ _ _ _ h => h) hS hl hz hw (fun i x a H2 e2 hx ha => ⟨(step i x a H2 e2 hx ha).1, fun hf => evp_v ((step i x a H2 e2 hx ha).2 hf)⟩) H1 e Q fun p ys H2 hp e2 h2 h3 => by
    have := Each.map h3
    subst this
    exact q p H2 hp e2 h2
/-- no test -/
theorem el_lc1 {α : Type} {wi : TI} {j : Nat} {vs : List Nat} {xs : List V} (items : List α) (g : α → V)
    (hS : EvS wi σ H xs) (hl : xs.length = items.length) (hz : xs.length ≤ 50000) (hw : ∀ x, wipe ((wipe σ vs).set j (some x)) vs = wipe σ vs)
    (step : ∀ (i : Nat) (x : V) (a : α) H1, Ex H H1 → xs[i]? = some x → items[i]? = some a → Ev te ((wipe σ vs).set j (some x)) H1 (g a)) :
    EvL (tLc wi (gName j) tYes te vs) σ H (items.map g) := by
  have h := el_lc (te := te) (t := tYes) items (fun _ => true) g hS hl hz hw fun i x a H1 e hx ha => ⟨fun H2 _ _ q => q H2 (Ex.refl H2), fun _ => step i x a H1 e hx ha⟩
  rw [List.filter_eq_self.mpr fun _ _ => rfl] at h
  exact h
theorem elp_lc1 {α : Type} {wi : TI} {j : Nat} {vs : List Nat} {xs : List V} (items : List α) (P : α → V → Hp → Prop) (hm : ∀ a y H H', Ei H H' → P a y H → P a y H')
    (hS : EvS wi σ H xs) (hl : xs.length = items.length) (hz : xs.length ≤ 50000) (hw : ∀ x, wipe ((wipe σ vs).set j (some x)) vs = wipe σ vs)
    (step : ∀ (i : Nat) (x : V) (a : α) H1, Ex H H1 → xs[i]? = some x → items[i]? = some a → EvP te ((wipe σ vs).set j (some x)) H1 (P a)) :
    ∀ H1, Ex H H1 → ∀ Q : VK, (∀ p ys H2, H1 p = none → Ex H1 H2 → H2 p = some (.lst ys) → Each P H2 items ys → Q (.ref p) H2) → tLc wi (gName j) tYes te vs σ H1 Q := fun H1 e Q q => by
  refine elp_lc (te := te) (t := tYes) items (fun _ => true) P hm hS hl hz hw (fun i x a H1 e hx ha => ⟨fun H2 _ _ q => q H2 (Ex.refl H2), fun _ => step i x a H1 e hx ha⟩) H1 e Q fun p ys H2 hp e2 h2 h3 => ?_
  rw [List.filter_eq_self.mpr fun _ _ => rfl] at h3
  exact q p ys H2 hp e2 h2 h3
/-- all(..), any(..) of a new list of truth values -/
theorem ev_all {bs : List Bool} (h : EvL te σ H (bs.map V.bl)) : Ev (tCB (rAll K) (tCons te tNil)) σ H (.bl (bs.all id)) := fun H1 e Q q =>
  h H1 e _ fun p H2 hp e2 h2 => ⟨p, bs, rfl, sq_of h2, q H2 e2⟩
theorem ev_any {bs : List Bool} (h : EvL te σ H (bs.map V.bl)) : Ev (tCB (rAny K) (tCons te tNil)) σ H (.bl (bs.any id)) := fun H1 e Q q =>
  h H1 e _ fun p H2 hp e2 h2 => ⟨p, bs, rfl, sq_of h2, q H2 e2⟩
end
end RV

/-! RvF: enumerate of a tuple; isinstance of own classes; == of own things; repr. -/
namespace RV
open PySem PySem.Spec PyProof.Rows L2 Evl

/-! ### enumerate(tuple) -/
theorem meets_enum_one {v : Value} {o : Obj} {Z : Heap → Prop} (B : Begins v o Z) :
    Meets (Builtin.«enumerate.__new__» ⟨[.type "enumerate", v], []⟩) (fun _ R s => Z s.heap ∧
      R (.ok (.ret (.ref (s.heap.push o).objs.size))) { s with heap := (s.heap.push o).push { cls := .type "enumerate", data := .fields #[.none, .bool false, .ref s.heap.objs.size, rawInt 0, .none, .none] } }) :=
  .of_wp fun prog w A R s h => by
    obtain ⟨hp, g, d, tk, os⟩ := s
    obtain ⟨h1, h⟩ := h
    have hsub := sub_enumerate
    have q1 : ∀ {A' : Around} {E : Value → Shared → Prop} {Q : Value → Shared → Prop}, Q (.ref hp.objs.size) ⟨hp.push o, g, d, tk, os⟩ → wpAny (model prog w) A' (pyIter v) Q E ⟨hp, g, d, tk, os⟩ :=
      fun q => B.iter prog w _ _ ⟨hp, g, d, tk, os⟩ _ h1 q
    wp_walk using q1
    refine wpAny_stack_any fun st => wpAny_pure ?_
    split
    · rename_i c _ _ _ _ _
      cases (c == Value.type "enumerate")
      · wp_walk using q1
        exact ⟨_, rfl, h⟩
      · wp_walk using q1
        exact ⟨_, rfl, h⟩
    · wp_walk using q1
      exact ⟨_, rfl, h⟩
theorem enum_one {prog : Program} {w : World} {A : Around} {E : Value → Shared → Prop} {s : Shared} {v : Value} {o : Obj} {Z : Heap → Prop} {Q : Value → Shared → Prop} (B : Begins v o Z) (h1 : Z s.heap)
    (h : ∀ h', IsEnum h' (s.heap.objs.size + 1) s.heap.objs.size 0 .none → h'.get? s.heap.objs.size = some o →
      (∀ b u, s.heap.get? b = some u → h'.get? b = some u) → Q (.ref (s.heap.objs.size + 1)) { s with heap := h' }) :
    wpAny (model prog w) A (call (.type "enumerate") [v]) Q E s := by
  refine callType_new F.called_enumerate (by decide) (F.typeCall_enumerate_1 _) (F.newCall_enumerate_1 _) (fun obj => F.args_object_init_2 obj _) F.entry_enumerate_new (meets_enum_one B) ⟨h1, ?_⟩
  have hz : (s.heap.push o).objs.size = s.heap.objs.size + 1 := Heap.size_push ..
  show _ ∧ _
  rw [hz]
  have he : IsEnum ((s.heap.push o).push { cls := .type "enumerate", data := .fields #[.none, .bool false, .ref s.heap.objs.size, rawInt 0, .none, .none] }) (s.heap.objs.size + 1) s.heap.objs.size 0 .none := by
    have g := Heap.get?_push_size (s.heap.push o) (o := { cls := .type "enumerate", data := .fields #[.none, .bool false, .ref s.heap.objs.size, rawInt 0, .none, .none] }) rfl
    rw [hz] at g
    exact g
  exact ⟨⟨_, he, rfl⟩, h _ he (Heap.get?_push_of_some _ (Heap.get?_push_size _ B.free)) fun b u x => Heap.get?_push_of_some _ (Heap.get?_push_of_some _ x)⟩
/-- the tuple at a as it stands, each item in a new pair -/
def ItEnT (K : Fg) (a : Addr) : It :=
  ⟨fun i H => ∃ (xs : List V) (x : V), SqT K H a xs ∧ xs[i]? = some x, fun i H v H' => ∃ T x, v = .ref T ∧ H T = none ∧ H' = upd H T (.tup [.int (i : Nat), x]) ∧ ∀ xs, SqT K H a xs → xs[i]? = some x, fun i H => ∃ xs : List V, SqT K H a xs ∧ xs.length = i⟩
theorem turn_enT {P : Program} {w : World} {K : Fg} {elts : List Expr} {kk : Nat} {tpos : Pos} (a e it : Addr) :
    Turn P w K (.Tuple elts kk tpos) (ItEnT K a) [e, it] e (fun i h => (∃ old, IsEnum h e it ((i : Nat) : Int) old) ∧ h.IsTupleIter it a i ∧ e ≠ it ∧ a ≠ it ∧ e ≠ a) where
  mem := by simp
  obj := fun i h st b hb => by
    obtain ⟨⟨old, he⟩, ⟨o, ho, hc, hd⟩, _⟩ := st
    rcases (show b = e ∨ b = it by simpa using hb) with z | z
    · rw [z]
      exact ⟨_, he, fun v q => nomatch q⟩
    · rw [z]
      exact ⟨o, ho, fun v q => by rw [hd] at q; cases q⟩
  keep := fun i h h' st k => ⟨⟨st.1.choose, k e (by simp) _ st.1.choose_spec⟩, st.2.1.at fun o q => k it (by simp) o q, st.2.2⟩
  item := by
    intro X hP hw hK hc i pins s σ H E I hf st hg
    subst hP hw hK
    obtain ⟨⟨old, he⟩, hit, hne, hai, hea⟩ := st
    obtain ⟨xs, x, hq, hx⟩ := hg
    obtain ⟨its, rv, p, hz⟩ := I.tuple hq
    obtain ⟨u, hu, ru⟩ := rv.get hx
    have hel : e < s.heap.objs.size := Heap.lt_size he
    have hil : it < s.heap.objs.size := by obtain ⟨_, q, _⟩ := hit; exact Heap.lt_size q
    have ht : s.heap.IsTuple a its.toArray := p
    have hil2 : i < its.toArray.size := by
      have := (List.getElem?_eq_some_iff.mp hu).1
      simpa using this
    refine wpAny_pyNext_enum_itemD (Draws.tuple (prog := X.prog) (w := X.w) (A := X.A.in1) (show X.A.in1.handled = none from I.ok.hd hc) it a hai its.toArray) he ⟨hit, ht⟩ hil2 hne (by simp [hne, hea]) fun x' h' tk hx' ho hit' hT hsz hk => ?_
    have ex' : x' = u := by
      have q : its.toArray[i]? = some x' := hx'
      have q2 : its[i]? = some x' := by simpa using q
      rw [hu] at q2
      exact (Option.some.inj q2).symm
    subst ex'
    refine ⟨_, rfl, wpAny_letOwnedTupleGo_enum (s := { s with heap := h', toks := tk + 1 }) ho fun h'' he' sb => ?_⟩
    have hT2 : h''.get? s.heap.objs.size = some { cls := .type "tuple", data := .seq #[.int i tk, x'] } := (sb.2 _ (Nat.ne_of_gt hel)).trans hT
    have new : ObjOk X.prog X.w (upd H s.heap.objs.size (.tup [.int (i : Nat), x])) h'' s.heap.objs.size (.tup [.int (i : Nat), x]) :=
      ⟨by show 2 ≤ sizeLine; decide, [.int i tk, x'], .cons ⟨_, rfl⟩ (.cons ru .nil), ⟨_, hT2, rfl, _, rfl⟩⟩
    have I1 : Inv X pins σ (upd H s.heap.objs.size (.tup [.int (i : Nat), x])) { s with heap := h'', toks := tk + 1 } :=
      I.turnedNew (ch := [e, it]) (fun b ob hb q => (sb.2 b (fun z => hb (by simp [z]))).trans (hk b ob (fun z => hb (by simp [z])) (fun z => hb (by simp [z])) q)) hf (Nat.le_refl _) new
    refine ⟨.ref s.heap.objs.size, _, I1, rfl, ⟨_, x, rfl, I.hok.fresh (Nat.le_refl _), rfl, fun ys hy => by rw [I.tuple_inj hy hq]; exact hx⟩, ⟨⟨x', ?_⟩, hit'.1.at fun o q => (sb.2 it (Ne.symm hne)).trans q, hne, hai, hea⟩, fun b hb => ?_⟩
    · have e1 : ((i + 1 : Nat) : Int) = (i : Int) + 1 := by omega
      rw [e1]
      exact he'
    · have hb' : b < s.heap.objs.size := by
        rcases (show b = e ∨ b = it by simpa using hb) with z | z
        · rw [z]
          exact hel
        · rw [z]
          exact hil
      rw [upd_ne (Nat.ne_of_lt hb')]
      exact (hf b hb).1
  done := by
    intro X hP hw hK hc i pins s σ H E I hf st hg
    subst hP hw hK
    obtain ⟨⟨old, he⟩, hit, hne, hai, hea⟩ := st
    obtain ⟨xs, hq, hx⟩ := hg
    obtain ⟨its, rv, p, hz⟩ := I.tuple hq
    obtain ⟨f0, f1, f2, f3, f4, f5⟩ := hf it (by simp)
    have hl := rv.length
    have ht : s.heap.IsTuple a its.toArray := p
    have en : its.toArray.size = i := by
      rw [← hx, hl]
      simp
    have D := Draws.tuple (prog := X.prog) (w := X.w) (A := X.A.in1) (show X.A.in1.handled = none from I.ok.hd hc) it a hai its.toArray
    exact wpAny_pyNext_enum_endD D he (by rw [en]; exact ⟨hit, ht⟩) fun h' eb => ⟨rfl, I.turned (t' := s.toks) (fun b o hb q => eb b o hb q) f0 f1 f3 f4 f5⟩
  self := fun A i s Q E st h => wpAny_pyIter_enum st.1.choose_spec h
def iEnT (K : Fg) (ta : TA) : TI := fun σ H R => ta σ H fun vs H1 => ∃ a xs, vs = [.ref a] ∧ SqT K H1 a xs ∧ R (ItEnT K a) H1
theorem pi_enumT {X : Cx} {e : Expr} {ta : TA} {p pos tpos : Pos} {elts : List Expr} {kk : Nat} (hg : Gl X "enumerate") (hm : X.mg "enumerate" = none) (ha : PA X [e] ta) (hs : starEach [e] X.env = [(false, eval e X.env)] := by rfl) :
    PI X (.Tuple elts kk tpos) (.Call (.Name "enumerate" p) [e] [] pos) (iEnT X.K ta) := by
  refine ⟨fun pins s σ H R I h => ?_⟩
  refine Call_ (ld_blt I hg hm boot_enumerate (PyProof.Rows.callWith_type1 (thn (ha.run pos pins s σ H _ I h) fun us s1 ⟨vs, H1, I1, r1, q1⟩ => ?_) hs rfl))
  obtain ⟨a, xs, ex, hq, q⟩ := q1
  subst ex
  cases r1 with
  | cons r rr =>
    cases rr
    cases r
    obtain ⟨its, rv, p', hz⟩ := I1.tuple hq
    have ht : s1.heap.IsTuple a its.toArray := p'
    have hal : a < s1.heap.objs.size := by
      obtain ⟨o, ho, _⟩ := p'
      exact Heap.lt_size ho
    refine enum_one (begins_tuple a its.toArray) ht fun h' he hit hk => wpAny_pyIter_enum he ?_
    have I2 : Inv X pins σ H1 { s1 with heap := h' } := I1.kept (t' := s1.toks) hk
    refine ⟨s1.heap.objs.size + 1, [s1.heap.objs.size + 1, s1.heap.objs.size], _, _, H1, rfl, I2, turn_enT a (s1.heap.objs.size + 1) s1.heap.objs.size, ⟨⟨.none, he⟩, ⟨_, hit, rfl, rfl⟩, Nat.succ_ne_self _, Nat.ne_of_lt hal, fun z => ?_⟩, fun b hb => ?_, q⟩
    · have z1 : s1.heap.objs.size + 1 = a := z
      rw [← z1] at hal
      exact absurd hal (Nat.not_lt.mpr (Nat.le_succ _))
    · have hle : s1.heap.objs.size ≤ b := by
        rcases (show b = s1.heap.objs.size + 1 ∨ b = s1.heap.objs.size by simpa using hb) with z | z
        · rw [z]
          exact Nat.le_add_right _ _
        · rw [z]
          exact Nat.le_refl _
      exact I1.fpOk hle (I1.hok.fresh hle)
theorem walk_enT {K : Fg} {a : Addr} {xs : List V} : Walk (ItEnT K a) xs.length (fun H => SqT K H a xs) (YPair (fun i => some (.int (i : Nat))) (fun i => xs[i]?)) := by
  refine ⟨fun i _ hi q => ⟨xs, xs[i], q, by simp [hi]⟩, fun _ q => ⟨xs, q, rfl⟩, fun i H v H' _ q y => ?_⟩
  obtain ⟨T, x, h1, h2, h3, h4⟩ := y
  exact ⟨T, .int (i : Nat), x, h1, h2, h3, rfl, h4 xs q⟩
end RV

/-! RvG: isinstance of own classes; what stays for ever; texts; new things. -/
namespace RV
open PySem PySem.Spec PyProof.Rows L2 Evl

/-! ### isinstance of own classes -/
structure InsF (K : Fg) (C : Addr) : Prop where
  ha : PySem.W.findIn K (.ref C) "__class__" = some (some (.builtin "object.__class__"))
  hn : PySem.W.specialIn K (.builtin "object.__class__") "__get__" = some (some (.builtin "getset_descriptor.__get__"))
  htk : PySem.W.takesIn K (.builtin "object.__class__") = some true
  hm : PySem.W.mroIn K C (.type "object") = some true
def insB (C : Str) : Fg → Bool := fun K => He.eqO (PySem.W.findIn K (.ref (He.ga K C)) "__class__") (some (some (.builtin "object.__class__"))) &&
  (He.eqO (PySem.W.specialIn K (.builtin "object.__class__") "__get__") (some (some (.builtin "getset_descriptor.__get__"))) &&
  (decide (PySem.W.takesIn K (.builtin "object.__class__") = some true) && decide (PySem.W.mroIn K (He.ga K C) (.type "object") = some true)))
def kitB (C D : Str) (b : Bool) : Fg → Bool := fun K => decide (PySem.W.kitOne K (.ref (He.ga K C)) (.ref (He.ga K D)) = some b)
def kitTB (T : String) (C : Str) (b : Bool) : Fg → Bool := fun K => decide (PySem.W.kitOne K (.type T) (.ref (He.ga K C)) = some b)
def kitCB (C : Str) (T : String) (b : Bool) : Fg → Bool := fun K => decide (PySem.W.kitOne K (.ref (He.ga K C)) (.type T) = some b)
def neB (C D : Str) : Fg → Bool := fun K => decide (He.ga K C ≠ He.ga K D)
section
variable {fx : List (Fg → Bool)} {fn : List DX} {K : Fg} {mg : Str → Option Value}
theorem Tx.ins (T : Tx fx fn K mg) (i : Nat) {C : Str} (h : fx[i]? = some (insB C) := by rfl) : InsF K (He.ga K C) := by
  obtain ⟨c1, c⟩ := He.ba (T.says.fact i h)
  obtain ⟨c2, c⟩ := He.ba c
  obtain ⟨c3, c4⟩ := He.ba c
  exact ⟨He.eqO_ok c1, He.eqO_ok c2, of_decide_eq_true c3, of_decide_eq_true c4⟩
theorem Tx.kit (T : Tx fx fn K mg) (i : Nat) {C D : Str} {b : Bool} (h : fx[i]? = some (kitB C D b) := by rfl) : PySem.W.kitOne K (.ref (He.ga K C)) (.ref (He.ga K D)) = some b := of_decide_eq_true (T.says.fact i h)
theorem Tx.kitT (T : Tx fx fn K mg) (i : Nat) {t : String} {C : Str} {b : Bool} (h : fx[i]? = some (kitTB t C b) := by rfl) : PySem.W.kitOne K (.type t) (.ref (He.ga K C)) = some b := of_decide_eq_true (T.says.fact i h)
theorem Tx.kitC (T : Tx fx fn K mg) (i : Nat) {t : String} {C : Str} {b : Bool} (h : fx[i]? = some (kitCB C t b) := by rfl) : PySem.W.kitOne K (.ref (He.ga K C)) (.type t) = some b := of_decide_eq_true (T.says.fact i h)
theorem Tx.ne (T : Tx fx fn K mg) (i : Nat) {C D : Str} (h : fx[i]? = some (neB C D) := by rfl) : He.ga K C ≠ He.ga K D := of_decide_eq_true (T.says.fact i h)
end
section
variable {K : Fg} {H : Hp} {C D a dx : Addr} {fs : List (Str × V)} {b : Bool} {t : String}
theorem ty_ins (h : H a = some (.ins C dx fs)) (c : Cls K C) (i : InsF K C) : TyX K H (.ref a) (.ref C) := .base (.ins h c i.ha i.hn i.htk i.hm)
theorem isC_ins (h : H a = some (.ins C dx fs)) (c : Cls K C) (i : InsF K C) (k : PySem.W.kitOne K (.ref C) (.ref D) = some b) : IsC K H (.ref a) D b := ⟨_, ty_ins h c i, k⟩
theorem isB_ins (h : H a = some (.ins C dx fs)) (c : Cls K C) (i : InsF K C) (k : PySem.W.kitOne K (.ref C) (.type t) = some b) : IsB K H (.ref a) t b := ⟨_, ty_ins h c i, k⟩
theorem isC_non (k : PySem.W.kitOne K (.type "NoneType") (.ref C) = some b) : IsC K H .non C b := ⟨_, .base .non, k⟩
theorem isC_str {z : Str} (k : PySem.W.kitOne K (.type "str") (.ref C) = some b) : IsC K H (.str z) C b := ⟨_, .base (.str z), k⟩
theorem isC_int {z : Int} (k : PySem.W.kitOne K (.type "int") (.ref C) = some b) : IsC K H (.int z) C b := ⟨_, .base (.int z), k⟩
theorem isC_bl {z : Bool} (k : PySem.W.kitOne K (.type "bool") (.ref C) = some b) : IsC K H (.bl z) C b := ⟨_, .base (.bl z), k⟩
theorem isC_tup {xs : List V} (h : H a = some (.tup xs)) (k : PySem.W.kitOne K (.type "tuple") (.ref C) = some b) : IsC K H (.ref a) C b := ⟨_, .base (.tup h), k⟩
theorem isC_lst {xs : List V} (h : H a = some (.lst xs)) (k : PySem.W.kitOne K (.type "list") (.ref C) = some b) : IsC K H (.ref a) C b := ⟨_, .base (.lst h), k⟩
/-- isinstance(x, C) within a reading -/
theorem ev_isC {σ : L2.St} {te tc : TE} {x : V} (h : Ev te σ H x) (hc : Ev tc σ H (.ref C)) (k : IsC K H x C b) : Ev (tCB (rIsC K) (tCons te (tCons tc tNil))) σ H (.bl b) := ev_cb (ea_cons h (ea_cons hc ea_nil)) (rc_isC fun _ e => isC_ex k e)
theorem ev_isB {σ : L2.St} {te tc : TE} {x : V} (h : Ev te σ H x) (hc : Ev tc σ H (.ty t)) (k : IsB K H x t b) : Ev (tCB (rIsB K) (tCons te (tCons tc tNil))) σ H (.bl b) := ev_cb (ea_cons h (ea_cons hc ea_nil)) (rc_isB fun _ e => isB_ex k e)
end

/-! ### what stays for ever: tuples, instances of the classes that are never written again -/
def frozen : List Str := ["Pipe", "Meter", "Net", "Vote", "Comparison", "Rule"]
def Fro (K : Fg) : HO → Prop
  | .tup _ => True
  | .ins C _ fs => (∃ x ∈ frozen, C = He.ga K x) ∧ fs ≠ []
  | _ => False
def Fz (K : Fg) (H H' : Hp) : Prop := ∀ b o, H b = some o → Fro K o → H' b = some o
theorem Fz.refl {K : Fg} {H : Hp} : Fz K H H := fun _ _ h _ => h
theorem Fz.trans {K : Fg} {H H1 H2 : Hp} (a : Fz K H H1) (b : Fz K H1 H2) : Fz K H H2 := fun x o h n => b x o (a x o h n) n
theorem _root_.Evl.Ex.fz {K : Fg} {H H1 : Hp} (a : Ex H H1) : Fz K H H1 := fun x o h _ => a x o h
theorem Ei.fz {K : Fg} {H H1 : Hp} (a : Ei H H1) : Fz K H H1 := fun x o h f => a x o h fun xs e => by
  subst e
  exact f
/-- what may change is none of it -/
theorem But.fz {K : Fg} {W : List Addr} {H H1 : Hp} (a : But W H H1) (h : ∀ p ∈ W, ∀ o, H p = some o → ¬ Fro K o) : Fz K H H1 := fun b o e f => a b o e fun z => h b z o e f
theorem nfro_lst {K : Fg} {xs : List V} : ¬ Fro K (.lst xs) := fun h => h
/-- tuples -/
theorem fz_tup {K : Fg} {H H1 : Hp} {a : Addr} {xs : List V} (e : Fz K H H1) (h : H a = some (.tup xs)) : H1 a = some (.tup xs) := e a _ h True.intro
theorem fz_ins {K : Fg} {H H1 : Hp} {a C dx : Addr} {x : Str} {fs : List (Str × V)} (e : Fz K H H1) (h : H a = some (.ins C dx fs)) (hx : x ∈ frozen) (hC : C = He.ga K x) (hf : fs ≠ []) : H1 a = some (.ins C dx fs) := e a _ h ⟨⟨x, hx, hC⟩, hf⟩
theorem nfro_new {K : Fg} {C dx : Addr} : ¬ Fro K (.ins C dx []) := fun h => h.2 rfl
theorem fz_of {K : Fg} {H H1 : Hp} {p : Addr} {o : HO} (b : But [p] H H1) (h : H p = some o) (n : ¬ Fro K o) : Fz K H H1 := b.fz fun q hq u e => by
  rw [List.mem_singleton.mp hq, h] at e
  cases e
  exact n
theorem Each.mem {α : Type} {P : α → V → Hp → Prop} {H : Hp} : ∀ {as : List α} {ys : List V}, Each P H as ys → ∀ (i : Nat) (a : α) (y : V), as[i]? = some a → ys[i]? = some y → P a y H
  | _, _, .nil, i, _, _, h, _ => by simp at h
  | _, _, .cons p t, 0, a, y, h, g => by
    simp at h g
    subst h g
    exact p
  | _, _, .cons p t, i + 1, a, y, h, g => Each.mem t i a y (by simpa using h) (by simpa using g)
theorem Each.len {α : Type} {P : α → V → Hp → Prop} {H : Hp} : ∀ {as : List α} {ys : List V}, Each P H as ys → as.length = ys.length
  | _, _, .nil => rfl
  | _, _, .cons p t => by rw [List.length_cons, List.length_cons, Each.len (H := H) (P := P) t]
theorem Each.fz {α : Type} {K : Fg} {P : α → V → Hp → Prop} (hm : ∀ a y H H', Fz K H H' → P a y H → P a y H') {H H' : Hp} (e : Fz K H H') {as : List α} {ys : List V} (h : Each P H as ys) : Each P H' as ys := Paired.mapP h fun a y p => hm a y H H' e p
theorem Each.imp {α : Type} {P P' : α → V → Hp → Prop} {H H' : Hp} (hm : ∀ a y, P a y H → P' a y H') {as : List α} {ys : List V} (h : Each P H as ys) : Each P' H' as ys := Paired.mapP h fun a y p => hm a y p
theorem Each.app {α : Type} {P : α → V → Hp → Prop} {H : Hp} : ∀ {as bs : List α} {ys zs : List V}, Each P H as ys → Each P H bs zs → Each P H (as ++ bs) (ys ++ zs)
  | _, _, _, _, .nil, h => h
  | _, _, _, _, .cons p t, h => .cons p (Each.app t h)
/-- a pair of positions -/
theorem Each.at {α : Type} {P : α → V → Hp → Prop} {H : Hp} {as : List α} {ys : List V} (h : Each P H as ys) {i : Nat} {y : V} (g : ys[i]? = some y) : ∃ a, as[i]? = some a ∧ P a y H := by
  have hl := Each.len h
  have hi : i < ys.length := (List.getElem?_eq_some_iff.mp g).1
  refine ⟨as[i]'(by omega), by simp [show i < as.length by omega], Each.mem h i _ y (by simp [show i < as.length by omega]) g⟩
theorem Each.at' {α : Type} {P : α → V → Hp → Prop} {H : Hp} {as : List α} {ys : List V} (h : Each P H as ys) {i : Nat} {a : α} (g : as[i]? = some a) : ∃ y, ys[i]? = some y ∧ P a y H := by
  have hl := Each.len h
  have hi : i < as.length := (List.getElem?_eq_some_iff.mp g).1
  refine ⟨ys[i]'(by omega), by simp [show i < ys.length by omega], Each.mem h i a _ g (by simp [show i < ys.length by omega])⟩

/-! ### statements, new things -/
section
variable {K : Fg} {σ : L2.St} {H H' : Hp} {ta tb te tx : TE} {t u : TT} {x y z v : V} {r : R2} {P : V → Hp → Prop} {sp : Sp} {D : Ends} {tz tu tw : TS}
theorem q_asgP {i : Nat} (h : EvP te σ H P) (k : ∀ v H1, Ex H H1 → P v H1 → tz D (σ.set i (some v)) H1) : tSeq (tAsg te (gName i)) tz D σ H := h H (Ex.refl H) _ fun v H1 e p => k v H1 e p
theorem s_retP (h : EvP te σ H P) (k : ∀ v H1, Ex H H1 → P v H1 → D.rt v H1) : tRet te D σ H := h H (Ex.refl H) _ fun v H1 e p => k v H1 e p
/-- a new list, a new tuple of these -/
def NewL (H : Hp) (xs : List V) (v : V) (H2 : Hp) : Prop := ∃ p, v = .ref p ∧ H p = none ∧ H2 p = some (.lst xs)
def NewT (H : Hp) (xs : List V) (v : V) (H2 : Hp) : Prop := ∃ p, v = .ref p ∧ H p = none ∧ H2 p = some (.tup xs)
theorem evp_l {xs : List V} (h : EvL te σ H xs) : EvP te σ H (NewL H xs) := fun H1 e Q q => h H1 e Q fun p H2 n e2 h2 => q _ H2 e2 ⟨p, rfl, fresh_back e n, h2⟩
theorem evp_t {xs : List V} (h : EvU te σ H xs) : EvP te σ H (NewT H xs) := fun H1 e Q q => h H1 e Q fun p H2 n e2 h2 => q _ H2 e2 ⟨p, rfl, fresh_back e n, h2⟩
theorem rc_lenT {p : Addr} {xs : List V} (h : SqT K H p xs) : RC (rLenS K) [.ref p] H (.int (xs.length : Int)) := fun H1 e _ q => ⟨p, xs, rfl, Or.inr (ex_t e h), q H1 (Ex.refl H1)⟩
theorem rc_lenL {p : Addr} {xs : List V} (h : SqL K H p xs) : RC (rLenS K) [.ref p] H (.int (xs.length : Int)) := fun H1 e _ q => ⟨p, xs, rfl, Or.inl (ex_l e h), q H1 (Ex.refl H1)⟩
/-! ### texts -/
theorem ev_fmt {y : Str} (h : Ev te σ H (.str y)) (hl : y.length ≤ 100000) : Ev (tFmt te) σ H (.str y) := fun H1 e Q q => h H1 e _ fun H2 e2 => .inl ⟨y, rfl, sz2 hl, q H2 e2⟩
def glue (acc : Str) (ys : List Str) : Str := ys.foldl (· ++ ·) acc
theorem tl_glue : ∀ (ys : List Str) (acc : Str), TL.tl (glue acc ys) = TL.tl acc ++ (ys.map TL.tl).flatten
  | [], acc => by simp [glue]
  | y :: ys, acc => by
    show TL.tl (glue (acc ++ y) ys) = _
    rw [tl_glue ys, TL.tl_append]
    simp
theorem len_app (a b : Str) : (a ++ b).length = a.length + b.length := by rw [TL.len_tl, TL.len_tl, TL.len_tl, TL.tl_append, List.length_append]
theorem evj {ts : List TE} {ys : List Str} (h : Paired (fun t y => Ev t σ H (.str y)) ts ys) : ∀ (acc : Str), acc.length + (ys.map Str.length).sum ≤ 100000 → ∀ H1, Ex H H1 → ∀ Q : Str → Hp → Prop, (∀ H2, Ex H1 H2 → Q (glue acc ys) H2) → tJs ts acc σ H1 Q := by
  induction h with
  | nil => exact fun acc _ H1 _ Q q => q H1 (Ex.refl H1)
  | @cons t y ts ys p r ih =>
    intro acc hz H1 e Q q
    refine p H1 e _ fun H2 e2 => ⟨y, rfl, ?_, ih (acc ++ y) ?_ H2 (e.trans e2) Q fun H3 e3 => q H3 (e2.trans e3)⟩
    · rw [len_app]
      rw [List.map_cons, List.sum_cons] at hz
      exact sz2 (by omega)
    · rw [len_app]
      rw [List.map_cons, List.sum_cons] at hz
      omega
theorem ev_join1 {ts : List TE} {ys : List Str} {w : Str} (h : Paired (fun t y => Ev t σ H (.str y)) ts ys) (hz : (ys.map Str.length).sum ≤ 100000) (hw : TL.tl w = (ys.map TL.tl).flatten) : Ev (fun σ H Q => tJs ts Str.empty σ H fun out H1 => Q (.str out) H1) σ H (.str w) := fun H1 e Q q =>
  evj h Str.empty (by
    have : Str.empty.length = 0 := rfl
    omega) H1 e _ fun H2 e2 => by
    have ew : w = glue Str.empty ys := TL.ext_tl (by rw [tl_glue, hw]; rfl)
    rw [← ew]
    exact q H2 e2
/-- s.split(y) -/
theorem el_split {a b : Str} (h : Ev ta σ H (.str a)) (h2 : Ev tb σ H (.str b)) (hb : (b.length == 0) = false) (hz : a.length ≤ 90000) :
    EvL (tM1 (fun x xs H Q => ∃ a b, x = .str a ∧ xs = [.str b] ∧ (b.length == 0) = false ∧ a.length + 2 ≤ sizeLine ∧ rNewStrs (Txt.split a b) H Q) ta tb) σ H ((Txt.split a b).map V.str) := fun H1 e Q q =>
  h H1 e _ fun H2 e2 => ⟨⟨a, rfl⟩, h2 H2 (e.trans e2) _ fun H3 e3 => ⟨a, b, rfl, rfl, hb, sz2 (by omega), fun p hp => q p _ (fresh_back (e2.trans e3) hp) ((e2.trans e3).trans (Ex.new hp)) upd_same⟩⟩
/-- s.join(a new list of texts) -/
theorem ev_joinN {a : Str} {ys : List Str} (h : Ev ta σ H (.str a)) (h2 : EvL tb σ H (ys.map V.str)) (hz : (ys.map (·.length)).sum + ys.length * a.length ≤ 16777216) :
    Ev (tM1 (fun x xs H Q => ∃ a p, ∃ ys : List Str, x = .str a ∧ xs = [.ref p] ∧ (SqL K H p (ys.map V.str) ∨ SqT K H p (ys.map V.str)) ∧ (ys.map (·.length)).sum + ys.length * a.length ≤ 16777216 ∧ Q (.str (Txt.join a ys)) H) ta tb) σ H (.str (Txt.join a ys)) := fun H1 e Q q =>
  h H1 e _ fun H2 e2 => ⟨⟨a, rfl⟩, h2 H2 (e.trans e2) _ fun p H3 hp e3 h3 => ⟨a, p, ys, rfl, rfl, .inl (sq_of h3), hz, q H3 (e2.trans e3)⟩⟩
/-- .. of a tuple that stands -/
theorem ev_joinT {a : Str} {p : Addr} {ys : List Str} (h : Ev ta σ H (.str a)) (h2 : Ev tb σ H (.ref p)) (hp : SqT K H p (ys.map V.str) ∨ SqL K H p (ys.map V.str)) (hz : (ys.map (·.length)).sum + ys.length * a.length ≤ 16777216) :
    Ev (tM1 (fun x xs H Q => ∃ a p, ∃ ys : List Str, x = .str a ∧ xs = [.ref p] ∧ (SqL K H p (ys.map V.str) ∨ SqT K H p (ys.map V.str)) ∧ (ys.map (·.length)).sum + ys.length * a.length ≤ 16777216 ∧ Q (.str (Txt.join a ys)) H) ta tb) σ H (.str (Txt.join a ys)) := fun H1 e Q q =>
  h H1 e _ fun H2 e2 => ⟨⟨a, rfl⟩, h2 H2 (e.trans e2) _ fun H3 e3 => ⟨a, p, ys, rfl, rfl, by
    rcases hp with hp | hp
    · exact .inr (ex_t ((e.trans e2).trans e3) hp)
    · exact .inl (ex_l ((e.trans e2).trans e3) hp), hz, q H3 (e2.trans e3)⟩⟩
/-! ### x in a list of texts -/
theorem inV_str {s : Str} {l : List Str} : inV (.str s) (l.map V.str) = decide (s ∈ l) := by
  unfold inV
  rw [List.any_map]
  have : ((fun y => eqV y (V.str s)) ∘ V.str) = fun y : Str => decide (y = s) := by
    funext y
    show (y == s) = _
    by_cases h : y = s <;> simp [h]
  rw [this]
  induction l with
  | nil => rfl
  | cons a l ih =>
    rw [List.any_cons, ih]
    by_cases h : a = s
    · subst h
      simp
    · have h2 : ¬ s = a := fun z => h z.symm
      simp [h, h2]
theorem flat_strs {l : List Str} : (l.map V.str).all flatV = true := by
  induction l with
  | nil => rfl
  | cons a l ih =>
    rw [List.map_cons, List.all_cons, ih]
    rfl
end
end RV

/-! RvH: a try that runs through, classmethods, classes in local names, loops over enumerate. -/
namespace RV
open PySem PySem.Spec PyProof.Rows L2 Evl

section
variable {X : Cx}
/-- a try whose body lets nothing out -/
theorem ps_tryN {body : List Stmt} {h : ExceptHandler} {hs : List ExceptHandler} {pos : Pos} {t : TS} (hb : PSs X body t) (hx : ∀ v s, ¬ X.xe v s) : PS X (.Try body (h :: hs) [] [] pos) t := by
  refine ⟨fun pins s σ H D I q => ?_⟩
  refine wpAny_Try_except (wpAny_mono (hb.run pins s σ H D I q) (fun f s1 y => ?_) fun e s1 he => absurd he (hx e s1))
  cases f with
  | next => exact wpAny_execs_nil y
  | ret v => exact y
  | brk => exact y
  | cont => exact y
end

/-! ### the rules, the written part named -/
/-- what tuple(..) of a sequence gives -/
def rTupOf (K : Fg) : List V → Hp → VK → Prop := fun xs H Q => ∃ p ys, xs = [.ref p] ∧ ((SqL K H p ys ∧ ∀ l, H l = none → Q (.ref l) (upd H l (.tup ys))) ∨ (SqT K H p ys ∧ Q (.ref p) H))
section
variable {X : Cx} {K : Fg} {e o l : Expr} {es : List Expr} {te to : TE} {t : TA}
theorem call_isBk (e : X.K = K := by rfl) : CallR X (.builtin "isinstance") (rIsB K) := by
  subst e
  exact call_isB
theorem call_isClk (e : X.K = K := by rfl) : CallR X (.builtin "isinstance") (rIsC K) := by
  subst e
  exact call_isCl
theorem call_len_seqk (e : X.K = K := by rfl) : CallR X (.builtin "len") (rLenS K) := by
  subst e
  exact call_len_seq
theorem call_tuple_ofk (e : X.K = K := by rfl) : CallR X (.type "tuple") (rTupOf K) := by
  subst e
  exact call_tuple_of
theorem call_list_ofk (e : X.K = K := by rfl) : CallR X (.type "list") (rListS K) := by
  subst e
  exact call_list_of
theorem ix_listk (e : X.K = K := by rfl) : IxR X (rIxL K) := by
  subst e
  exact ix_list
theorem ix_tupk (e : X.K = K := by rfl) : IxR X (rIxT K) := by
  subst e
  exact ix_tup
theorem op_in_seqk (e : X.K = K := by rfl) : OpR X (compareOp .In) (rIn K false) := by
  subst e
  exact op_in_seq
theorem op_notIn_seqk (e : X.K = K := by rfl) : OpR X (compareOp .NotIn) (rIn K true) := by
  subst e
  exact op_notIn_seq
theorem op_catAk (e : X.K = K := by rfl) : OpR X (binaryOp .Add) (rCatA K) := by
  subst e
  exact op_catA
theorem sl_listk (e : X.K = K := by rfl) : SlR X (rSlL K) := by
  subst e
  exact sl_list
theorem sl_tupAk (e : X.K = K := by rfl) : SlR X (rSlA K) := by
  subst e
  exact sl_tupA
theorem cr_allk (hc : X.calm = true) (e : X.K = K := by rfl) : CallR X (.builtin "all") (rAll K) := by
  subst e
  exact (cr_all hc)
theorem cr_anyk (hc : X.calm = true) (e : X.K = K := by rfl) : CallR X (.builtin "any") (rAny K) := by
  subst e
  exact (cr_any hc)
theorem op_eqDk (hu : X.A.units + 64 < cLine) (e : X.K = K := by rfl) : OpR X (compareOp .Eq) (rEqD K) := by
  subst e
  exact (op_eqD hu)
theorem op_neDk (hu : X.A.units + 64 < cLine) (e : X.K = K := by rfl) : OpR X (compareOp .NotEq) (rNeD K) := by
  subst e
  exact (op_neD hu)
theorem pe_fldk {f : Str} {pos : Pos} (he : PE X e te) (hb : attributeBase e f X.env (eval e X.env) = eval e X.env) (h : X.K = K := by rfl) : PE X (.Attribute e f pos) (tFld K te f) := by
  subst h
  exact pe_fld he hb
theorem pi_listk {tg : Expr} (hl : PE X l te) (h : X.K = K := by rfl) : PI X tg l (iList K te) := by
  subst h
  exact pi_list hl
theorem pi_tupk {tg : Expr} (hl : PE X l te) (h : X.K = K := by rfl) : PI X tg l (iTup K te) := by
  subst h
  exact pi_tup hl
theorem pg_tupk {es : List Expr} {k : Nat} {t : TGs} {n : Nat} {pos : Pos} (hc : X.calm = true) (h : PGs X es t) (e : X.K = K := by rfl)
    (hn : (assignEach es X.env).length = n := by rfl) (hst : (assignEach es X.env).findIdx? (·.1) = none := by rfl) : PG X (.Tuple es k pos) (gTup K n t) := by
  subst e
  exact pg_tup hc h hn hst
theorem pa_stark {p : Pos} (he : PE X e te) (hr : PA X es t) (h : X.K = K := by rfl) (hs : starEach (.Starred e p :: es) X.env = (true, eval e X.env) :: starEach es X.env := by rfl) : PA X (.Starred e p :: es) (StX.tStar K te t) := by
  subst h
  exact StX.pa_star he hr hs
theorem pe_joink {e2 : Expr} {apos pos : Pos} (ho : PE X o to) (he : PE X e2 te) (h : X.K = K := by rfl) (hs : starEach [e2] X.env = [(false, eval e2 X.env)] := by rfl) (hbase : attributeBase o "join" X.env (eval o X.env) = eval o X.env := by rfl) (hline : (apos.endLine == pos.line) = true := by rfl) :
    PE X (.Call (.Attribute o "join" apos) [e2] [] pos) (tM1 (fun x xs H Q => ∃ a p, ∃ ys : List Str, x = .str a ∧ xs = [.ref p] ∧ (SqL K H p (ys.map V.str) ∨ SqT K H p (ys.map V.str)) ∧ (ys.map (·.length)).sum + ys.length * a.length ≤ 16777216 ∧ Q (.str (Txt.join a ys)) H) to te) := by
  subst h
  exact pe_join ho he hs hbase hline
end

/-! ### a class in a local name -/
section
variable {X : Cx} {k j i : Nat} {x y : Str} {C : Addr} {sp : Sp} {dvs : List V} {p pos apos : Pos} {e o : Expr} {es : List Expr} {ta : TE} {t : TA}
def tMakV (i : Nat) (C : Addr) (sp : Sp) (dvs : List V) (t : TA) : TE := fun σ H Q => σ[i]? = some (some (.ref C)) ∧ tMake C sp dvs E0 t σ H Q
theorem pe_makV (c : Mak X.prog X.w X.K X.mg X.base k y C sp dvs) (hr : Room j X.A) (hk : k + 1 ≤ j) (hN : X.N[i]? = some x) (hv : Vis X.env.scope x) (ha : PA X (e :: es) t)
    (hd : (x == ("__debug__" : Str)) = false := by decide) (hcd : (x == ("__classdict__" : Str)) = false := by decide)
    (he : starEach (e :: es) X.env = (false, eval e X.env) :: starEach es X.env := by rfl) (hpl : (backTo pos (starEach es X.env)).any (·.1) = false := by rfl) :
    PE X (.Call (.Name x p) (e :: es) [] pos) (tMakV i C sp dvs t) := by
  obtain ⟨f, fd, ps, ds, M, F, hm, b, d⟩ := c.ex
  refine ⟨fun pins s σ H Q I ⟨h1, h2⟩ => ?_⟩
  refine wpAny_Call_Name_kw (thn ((pe_var (pos := p) hN hv hd hcd).run pins s σ H (fun v H1 => v = .ref C ∧ H1 = H) I ⟨.ref C, h1, rfl, rfl⟩) fun u s1 ⟨v, H1, I1, r1, q1⟩ => ?_)
  obtain ⟨rfl, rfl⟩ := q1
  cases r1
  refine PySem.W.callWith_K (h₀ := X.base) I.ok.mod.kin M.kp (thn (ha.run pos pins s1 σ _ _ I1 h2) fun us s2 ⟨vs, H2, I2, r, q⟩ => ⟨I2.kIn, ?_⟩) he hpl
  exact run_make M F (hr.mono hk) b d passL I2 r q
theorem ev_makV {P : V → Hp → Prop} {σ : L2.St} {H : Hp} (hi : σ[i]? = some (some (.ref C))) (h : EvP (tMake C sp dvs E0 t) σ H P) : EvP (tMakV i C sp dvs t) σ H P := fun H1 e Q q => ⟨hi, h H1 e Q q⟩
end

/-! ### classmethods -/
def clmB (C m : Str) : Fg → Bool := fun K => PySem.W.readsIn K (He.ga K C) (.type "type") && (He.eqO (PySem.W.specialIn K (.ref (He.ga K C)) "__getattribute__") (some (some (.builtin "type.__getattribute__"))) &&
  ((match PySem.W.findCls K (.ref (He.ga K C)) (.type "type") m with
    | some (.get (.builtin "classmethod.__get__") (.ref p) .none (.ref D)) => decide (p = He.ma K (He.ga K C) m) && decide (D = He.ga K C)
    | _ => false) &&
  ((match PySem.W.recIn K (He.ma K (He.ga K C) m) "classmethod" with
    | some (.ref _ :: _) => true
    | _ => false) && PySem.W.fnIn K (At.a K (.clm C m)))))
structure ClmF (K : Fg) (C : Addr) (m : Str) (g : Addr) : Prop where
  r : ClX.CRead K C (.type "type")
  c : ∃ p, ClX.CMet K C (.type "type") m p g
theorem Tx.clm {fx : List (Fg → Bool)} {fn : List DX} {K : Fg} {mg : Str → Option Value} (T : Tx fx fn K mg) (i : Nat) {C m : Str} (h : fx[i]? = some (clmB C m) := by rfl) : ClmF K (He.ga K C) m (At.a K (.clm C m)) := by
  obtain ⟨c1, c⟩ := He.ba (T.says.fact i h)
  obtain ⟨c2, c⟩ := He.ba c
  obtain ⟨c3, c⟩ := He.ba c
  obtain ⟨c4, c5⟩ := He.ba c
  refine ⟨⟨c1, He.eqO_ok c2⟩, He.ma K (He.ga K C) m, ?_, ?_, c5⟩
  · split at c3
    · rename_i p D q
      obtain ⟨e1, e2⟩ := He.ba c3
      rw [of_decide_eq_true e1, of_decide_eq_true e2] at q
      exact q
    · cases c3
  · split at c4
    · rename_i g r q
      have e : At.a K (.clm C m) = g := by
        show recA K "classmethod" (He.ma K (He.ga K C) m) = g
        unfold recA
        rw [q]
      exact ⟨r, by rw [e]; exact q⟩
    · cases c4
structure Clm (P : Program) (w : World) (K : Fg) (mg : Str → Option Value) (base : Heap) (k : Nat) (C : Addr) (m : Str) (sp : Sp) : Prop where
  ex : ∃ g, ClmF K C m g ∧ FnR P w K mg base (L2.CX P w) k g sp
theorem fnR_cal {P : Program} {w : World} {K : Fg} {mg : Str → Option Value} {base : Heap} {k : Nat} {f : Addr} {sp : Sp} (o : CalA P w K mg base k f sp []) : FnR P w K mg base (L2.CX P w) k f sp := by
  obtain ⟨fd, ps, ds, F, kp, b, d⟩ := o.ex
  cases d
  have h := L2.FnOk.raw F b .nil
  exact h.imp fun vs H Q E q => by
    show sp (vs ++ []) H Q E
    rw [List.append_nil]
    exact q
theorem clm_of {P : Program} {w : World} {K : Fg} {mg : Str → Option Value} {base : Heap} {k : Nat} {C g : Addr} {m : Str} {sp : Sp} (c : ClmF K C m g) (o : CalA P w K mg base k g sp []) : Clm P w K mg base k C m sp := ⟨g, c, fnR_cal o⟩
section
variable {X : Cx} {k j : Nat} {m : Str} {C : Addr} {sp : Sp} {pos apos : Pos} {e o : Expr} {es : List Expr} {ta : TE} {t : TA} {pl : Sem Bool}
theorem pe_clm (c : Clm X.prog X.w X.K X.mg X.base k C m sp) (hr : Room j X.A) (hk : k ≤ j) (he : PE X o ta) (ha : PA X (e :: es) t)
    (hst : starEach (e :: es) X.env = (false, eval e X.env) :: starEach es X.env := by rfl) (hpl : (backTo pos (starEach es X.env)).any (·.1) = false := by rfl)
    (ht : eval (.Call (.Attribute o m apos) (e :: es) [] pos) X.env = (do
      let ov ← eval o X.env
      standAt apos.atName
      let (f, first) ← holding [ov] (getMethod ov m pl)
      callWith pos f first (backTo pos (starEach (e :: es) X.env)) (backToKw pos (keywordEach [] X.env))) := by rfl) :
    PE X (.Call (.Attribute o m apos) (e :: es) [] pos) (ClX.tCMeth C sp E0 ta t) := by
  obtain ⟨g, ⟨r, p, c⟩, F⟩ := c.ex
  exact ClX.pe_cmeth (pl := pl) he r c F (hr.mono hk) passL ha hst hpl ht
theorem evp_clm {P : V → Hp → Prop} {σ : L2.St} {H : Hp} {vs : List V} {E : XK} (hc : Ev ta σ H (.ref C)) (h : EvA t σ H vs) (hs : SpP sp (.ref C :: vs) H P) : EvP (ClX.tCMeth C sp E ta t) σ H P := fun H1 e Q q =>
  hc H1 e _ fun H2 e2 => ⟨rfl, h H2 (e.trans e2) _ fun H3 e3 => hs H3 ((e.trans e2).trans e3) Q (fun v H4 e4 p => q v H4 ((e2.trans e3).trans e4) p) E⟩
end

/-! ### a for over enumerate(tuple), pairs unpacked -/
section
variable {K : Fg} {σ : L2.St} {H : Hp} {D : Ends} {tu tz : TS} {g : TGs}
theorem s_forE {a : Addr} {xs : List V} {ta : TA} {i1 i2 : Nat} (h : EvA ta σ H [.ref a]) (hx : SqT K H a xs) (Pv : Nat → L2.St → Hp → Prop) (h0 : ∀ H1, Ex H H1 → Pv 0 σ H1) (hl : ∀ i σ' H', i ≤ xs.length → Pv i σ' H' → SqT K H' a xs)
    (hs : ∀ (i : Nat) x σ' H', xs[i]? = some x → Pv i σ' H' → ∀ T, H' T = none → tu { D with nx := Pv (i + 1), ct := Pv (i + 1), bk := D.nx } ((σ'.set i1 (some (.int (i : Nat)))).set i2 (some x)) (upd H' T (.tup [.int (i : Nat), x]))) (hd : ∀ σ' H', Pv xs.length σ' H' → D.nx σ' H') :
    tFor (iEnT K ta) (gTup K 2 (gCons (gName i1) (gCons (gName i2) gNil))) tu D σ H :=
  h H (Ex.refl H) _ fun H1 e => ⟨a, xs, rfl, ex_t e hx, for_it walk_enT Pv (h0 H1 e) (fun i σ H hi p => hl i σ H hi p) (fun i v σ1 H2 H3 hi p y => by
    obtain ⟨T, x, y, rfl, hT, rfl, ex, ey⟩ := y
    cases ex
    exact ⟨T, [.int (i : Nat), y], rfl, sqT_of upd_same, rfl, _, _, rfl, _, _, rfl, rfl, hs i y σ1 H2 ey p T hT⟩) hd⟩
theorem q_forE {a : Addr} {xs : List V} {ta : TA} {i1 i2 : Nat} (h : EvA ta σ H [.ref a]) (hx : SqT K H a xs) (Pv : Nat → L2.St → Hp → Prop) (h0 : ∀ H1, Ex H H1 → Pv 0 σ H1) (hl : ∀ i σ' H', i ≤ xs.length → Pv i σ' H' → SqT K H' a xs)
    (hs : ∀ (i : Nat) x σ' H', xs[i]? = some x → Pv i σ' H' → ∀ T, H' T = none → tu { D with nx := Pv (i + 1), ct := Pv (i + 1), bk := tz D } ((σ'.set i1 (some (.int (i : Nat)))).set i2 (some x)) (upd H' T (.tup [.int (i : Nat), x]))) (hd : ∀ σ' H', Pv xs.length σ' H' → tz D σ' H') :
    tSeq (tFor (iEnT K ta) (gTup K 2 (gCons (gName i1) (gCons (gName i2) gNil))) tu) tz D σ H := s_forE (D := { D with nx := tz D }) h hx Pv h0 hl hs hd
end

/-! ### fields, tuples, new sequences told by a word -/
section
variable {K : Fg} {σ : L2.St} {H H' : Hp} {ta tb te tv : TE} {v : V} {D : Ends} {tu tz : TS}
theorem s_fld {a C dx : Addr} {fs : List (Str × V)} {f : Str} (ha : Ev ta σ H (.ref a)) (hv : Ev tv σ H v) (hH : H a = some (.ins C dx fs)) (c : Cls K C) (n : NoAttr K C f) (hl : fs.length < 1000) (k : ∀ H1, Ex H H1 → D.nx σ (upd H1 a (.ins C dx (putF f v fs)))) : sFld K ta tv f D σ H :=
  hv H (Ex.refl H) _ fun H1 e1 => ha H1 e1 _ fun H2 e2 => ⟨a, C, dx, fs, rfl, (e1.trans e2) _ _ hH, c, n, hl, k H2 (e1.trans e2)⟩
theorem q_fld {a C dx : Addr} {fs : List (Str × V)} {f : Str} (ha : Ev ta σ H (.ref a)) (hv : Ev tv σ H v) (hH : H a = some (.ins C dx fs)) (c : Cls K C) (n : NoAttr K C f) (hl : fs.length < 1000) (k : ∀ H1, Ex H H1 → tz D σ (upd H1 a (.ins C dx (putF f v fs)))) : tSeq (sFld K ta tv f) tz D σ H :=
  s_fld (D := { D with nx := tz D }) ha hv hH c n hl k
theorem s_fldP {P : V → Hp → Prop} {a C dx : Addr} {fs : List (Str × V)} {f : Str} (ha : Ev ta σ H (.ref a)) (hv : EvP tv σ H P) (hm : Mon P) (hH : H a = some (.ins C dx fs)) (c : Cls K C) (n : NoAttr K C f) (hl : fs.length < 1000) (k : ∀ v H1, Ex H H1 → P v H1 → D.nx σ (upd H1 a (.ins C dx (putF f v fs)))) : sFld K ta tv f D σ H :=
  hv H (Ex.refl H) _ fun v H1 e1 p => ha H1 e1 _ fun H2 e2 => ⟨a, C, dx, fs, rfl, (e1.trans e2) _ _ hH, c, n, hl, k v H2 (e1.trans e2) (hm _ _ _ e2 p)⟩
theorem q_fldP {P : V → Hp → Prop} {a C dx : Addr} {fs : List (Str × V)} {f : Str} (ha : Ev ta σ H (.ref a)) (hv : EvP tv σ H P) (hm : Mon P) (hH : H a = some (.ins C dx fs)) (c : Cls K C) (n : NoAttr K C f) (hl : fs.length < 1000) (k : ∀ v H1, Ex H H1 → P v H1 → tz D σ (upd H1 a (.ins C dx (putF f v fs)))) : tSeq (sFld K ta tv f) tz D σ H :=
  s_fldP (D := { D with nx := tz D }) ha hv hm hH c n hl k
/-- a tuple of these, old or new -/
def IsT (xs : List V) (v : V) (H : Hp) : Prop := ∃ p, v = .ref p ∧ H p = some (.tup xs)
theorem isT_mon {xs : List V} : Mon (IsT xs) := fun v H H' e ⟨p, h1, h2⟩ => ⟨p, h1, e _ _ h2⟩
theorem evp_T {xs : List V} (h : EvU te σ H xs) : EvP te σ H (IsT xs) := (evp_t h).imp fun v H2 _ ⟨p, h1, _, h2⟩ => ⟨p, h1, h2⟩
theorem evp_T1 {xs : List V} {p : Addr} (h : Ev te σ H (.ref p)) (hp : H p = some (.tup xs)) : EvP te σ H (IsT xs) := fun H1 e Q q => h H1 e Q fun H2 e2 => q _ H2 e2 ⟨p, rfl, (e.trans e2) _ _ hp⟩
theorem evp_cat {xs ys : List V} (ha : EvP ta σ H (IsT xs)) (hb : EvP tb σ H (IsT ys)) (hz : xs.length + ys.length ≤ 100000) : EvP (tOp (rCatA K) ta tb) σ H (IsT (xs ++ ys)) := fun H1 e Q q =>
  ha H1 e _ fun v H2 e2 ⟨p, h1, h2⟩ => hb H2 (e.trans e2) _ fun w H3 e3 ⟨r, g1, g2⟩ => by
    subst h1 g1
    refine ⟨p, r, xs, ys, rfl, rfl, sqT_of (e3 _ _ h2), sqT_of g2, sz2 hz, fun hx => ?_, fun hx hy => ?_, fun hx hy t nt => ?_⟩
    · subst hx
      exact q _ _ (e2.trans e3) ⟨r, rfl, g2⟩
    · subst hy
      exact q _ _ (e2.trans e3) ⟨p, rfl, by rw [List.append_nil]; exact e3 _ _ h2⟩
    · exact q _ _ ((e2.trans e3).trans (same_new nt)) ⟨t, rfl, upd_same⟩
theorem cutV_whole {xs : List V} {lo hi : Option Int} (h : HT.sIx xs.length 0 lo = 0 ∧ HT.sIx xs.length xs.length hi = xs.length) : cutV xs lo hi = xs := by
  unfold cutV
  rw [h.1, h.2]
  simp
theorem evp_sl {xs : List V} {tl th : TO} {lo hi : Option Int} (ha : EvP te σ H (IsT xs)) (h1 : EvO tl σ H lo) (h2 : EvO th σ H hi) : EvP (tSl (rSlA K) te tl th) σ H (IsT (cutV xs lo hi)) := fun H1 e Q q =>
  ha H1 e _ fun v H2 e2 ⟨p, g1, g2⟩ => h1 H2 (e.trans e2) _ fun H3 e3 => h2 H3 ((e.trans e2).trans e3) _ fun H4 e4 => by
    subst g1
    refine ⟨p, xs, rfl, sqT_of ((e3.trans e4) _ _ g2), fun hw => ?_, fun hw t nt => ?_⟩
    · exact q _ _ ((e2.trans e3).trans e4) ⟨p, rfl, by rw [cutV_whole hw]; exact (e3.trans e4) _ _ g2⟩
    · exact q _ _ (((e2.trans e3).trans e4).trans (same_new nt)) ⟨t, rfl, upd_same⟩
/-- a new list, a new tuple, its items told by R -/
def LstP (H : Hp) (R : List V → Hp → Prop) (v : V) (H2 : Hp) : Prop := ∃ p ys, v = .ref p ∧ H p = none ∧ H2 p = some (.lst ys) ∧ R ys H2
def TupP (H : Hp) (R : List V → Hp → Prop) (v : V) (H2 : Hp) : Prop := ∃ p ys, v = .ref p ∧ H p = none ∧ H2 p = some (.tup ys) ∧ R ys H2
theorem evp_of_lc {α : Type} {P : α → V → Hp → Prop} {items : List α} (h : ∀ H1, Ex H H1 → ∀ Q : VK, (∀ p ys H2, H1 p = none → Ex H1 H2 → H2 p = some (.lst ys) → Each P H2 items ys → Q (.ref p) H2) → te σ H1 Q) : EvP te σ H (LstP H fun ys H2 => Each P H2 items ys) :=
  fun H1 e Q q => h H1 e Q fun p ys H2 n e2 h2 h3 => q _ H2 e2 ⟨p, ys, rfl, fresh_back e n, h2, h3⟩
theorem evp_tupOf {R : List V → Hp → Prop} (hm : ∀ ys H H', Ex H H' → R ys H → R ys H') (h : EvP te σ H (LstP H R)) : EvP (tCB (rTupOf K) (tCons te tNil)) σ H (TupP H R) := fun H1 e Q q =>
  h H1 e _ fun v H2 e2 ⟨p, ys, h1, n, h2, h3⟩ => ⟨p, ys, by rw [h1], .inl ⟨sqL_of h2, fun l nl => q _ _ (e2.trans (same_new nl)) ⟨l, ys, rfl, fresh_back (e.trans e2) nl, upd_same, hm _ _ _ (same_new nl) h3⟩⟩⟩
/-- tuple(a list that stands) -/
theorem eu_tupOf {p : Addr} {ys : List V} (h : Ev te σ H (.ref p)) (hp : SqL K H p ys) : EvU (tCB (rTupOf K) (tCons te tNil)) σ H ys := fun H1 e Q q =>
  h H1 e _ fun H2 e2 => ⟨p, ys, rfl, .inl ⟨ex_l (e.trans e2) hp, fun l nl => q l _ (fresh_back e2 nl) (e2.trans (same_new nl)) upd_same⟩⟩
theorem eu_tupOfN {ys : List V} (h : EvL te σ H ys) : EvU (tCB (rTupOf K) (tCons te tNil)) σ H ys := fun H1 e Q q =>
  h H1 e _ fun p H2 n e2 h2 => ⟨p, ys, rfl, .inl ⟨sqL_of h2, fun l nl => q l _ (fresh_back e2 nl) (e2.trans (same_new nl)) upd_same⟩⟩
/-- *e within a call or a tuple: a tuple that stands -/
theorem ea_star {tr : TA} {p : Addr} {xs vs : List V} (h : Ev te σ H (.ref p)) (hp : SqT K H p xs ∨ SqL K H p xs) (hr : EvA tr σ H vs) : EvA (StX.tStar K te tr) σ H (xs ++ vs) := fun H1 e Q q =>
  h H1 e _ fun H2 e2 => ⟨p, xs, rfl, by
    rcases hp with hp | hp
    · exact .inl (ex_t (e.trans e2) hp)
    · exact .inr (ex_l (e.trans e2) hp), hr H2 (e.trans e2) _ fun H3 e3 => q H3 (e2.trans e3)⟩
end

section
variable {K : Fg} {σ : L2.St} {H H' : Hp} {ta tb te tv : TE} {v : V}
theorem el_splitE {a b : Str} {l : List Str} (hs : Txt.split a b = l) (h : Ev ta σ H (.str a)) (h2 : Ev tb σ H (.str b)) (hb : (b.length == 0) = false) (hz : a.length ≤ 90000) :
    EvL (tM1 (fun x xs H Q => ∃ a b, x = .str a ∧ xs = [.str b] ∧ (b.length == 0) = false ∧ a.length + 2 ≤ sizeLine ∧ rNewStrs (Txt.split a b) H Q) ta tb) σ H (l.map V.str) := by
  rw [← hs]
  exact el_split h h2 hb hz
theorem ea_star1 {p : Addr} {xs : List V} (h : Ev te σ H (.ref p)) (hp : SqT K H p xs ∨ SqL K H p xs) : EvA (StX.tStar K te tNil) σ H xs := by
  have := ea_star h hp (ea_nil (σ := σ) (H := H))
  rw [List.append_nil] at this
  exact this
/-- str(o), len(o) of an own object -/
theorem ev_strO {C a dx : Addr} {fs : List (Str × V)} {sp : Sp} {z : Str} (h : Ev te σ H (.ref a)) (hH : H a = some (.ins C dx fs)) (hs : SpV sp [.ref a] H (.str z)) : Ev (tCB (rO1 C sp gStr) (tCons te tNil)) σ H (.str z) := fun H1 e Q q =>
  h H1 e _ fun H2 e2 => ⟨a, dx, fs, rfl, (e.trans e2) _ _ hH, hs H2 (e.trans e2) _ (fun H3 e3 => ⟨z, rfl, q H3 (e2.trans e3)⟩) E0⟩
theorem ev_lenO {C a dx : Addr} {fs : List (Str × V)} {sp : Sp} {n : Nat} (h : Ev te σ H (.ref a)) (hH : H a = some (.ins C dx fs)) (hn : n ≤ 100000) (hs : SpV sp [.ref a] H (.int (n : Nat))) : Ev (tCB (rO1 C sp gLen) (tCons te tNil)) σ H (.int (n : Nat)) := fun H1 e Q q =>
  h H1 e _ fun H2 e2 => ⟨a, dx, fs, rfl, (e.trans e2) _ _ hH, hs H2 (e.trans e2) _ (fun H3 e3 => ⟨_, rfl, ⟨by omega, by omega⟩, q H3 (e2.trans e3)⟩) E0⟩
/-- o[i], v in o -/
theorem rv_getO {C a dx : Addr} {fs : List (Str × V)} {sp : Sp} {y z : V} (hH : H a = some (.ins C dx fs)) (hs : SpV sp [.ref a, y] H z) : RV (rGetO C sp) (.ref a) y H z := fun H1 e Q q =>
  ⟨a, dx, fs, rfl, e _ _ hH, hs H1 e Q q E0⟩
theorem rv_inO {C a dx : Addr} {fs : List (Str × V)} {sp : Sp} {x : V} {b : Bool} (hH : H a = some (.ins C dx fs)) (hs : SpV sp [.ref a, x] H (.bl b)) : RV (rInO C sp false) x (.ref a) H (.bl b) := fun H1 e Q q =>
  ⟨a, dx, fs, rfl, e _ _ hH, hs H1 e _ (fun H2 e2 => ⟨b, rfl, q H2 e2⟩) E0⟩
theorem et_truO {C a dx : Addr} {fs : List (Str × V)} {sp : Sp} {b : Bool} (h : Ev te σ H (.ref a)) (hH : H a = some (.ins C dx fs)) (hs : SpV sp [.ref a] H (.bl b)) : EvT (tTruO C sp te) σ H b := fun H1 e Q q =>
  h H1 e _ fun H2 e2 => ⟨a, dx, fs, rfl, (e.trans e2) _ _ hH, hs H2 (e.trans e2) _ (fun H3 e3 => ⟨b, rfl, q H3 (e2.trans e3)⟩) E0⟩
theorem sum_le {α : Type} {f : α → Nat} {n : Nat} : ∀ {l : List α}, (∀ a ∈ l, f a ≤ n) → (l.map f).sum ≤ l.length * n
  | [], _ => Nat.zero_le _
  | a :: l, h => by
    have h1 := h a (List.mem_cons_self ..)
    have h2 := sum_le (l := l) fun x hx => h x (List.mem_cons_of_mem _ hx)
    rw [List.map_cons, List.sum_cons, List.length_cons, Nat.succ_mul]
    omega
end
end RV

/-! RvI: comprehensions over pairs, zip of tuples. -/
namespace RV
open PySem PySem.Spec PyProof.Rows L2 Evl
section
variable {K : Fg} {σ : L2.St} {H H' : Hp} {ta tb te tx : TE} {t u : TT} {x y z v : V} {r : R2} {P : V → Hp → Prop} {sp : Sp}
theorem walk_zipT {a b : Addr} {xs ys : List V} {n : Nat} (hn : n = min xs.length ys.length) : Walk (RZ.ItzT K a b) n (fun H => SqT K H a xs ∧ SqT K H b ys) (YPair (fun i => xs[i]?) (fun i => ys[i]?)) := by
  subst hn
  refine ⟨fun i _ hi q => ?_, fun _ q => ⟨xs, ys, q.1, q.2, by omega⟩, fun i H v H' _ q y => ?_⟩
  · have h1 : i < xs.length := by omega
    have h2 : i < ys.length := by omega
    exact ⟨xs, ys, xs[i], ys[i], q.1, q.2, by simp [h1], by simp [h2]⟩
  · obtain ⟨T, x, z, h1, h2, h3, h4, h5⟩ := y
    exact ⟨T, x, z, h1, h2, h3, h4 xs q.1, h5 ys q.2⟩
/-- a walk that gives pairs of these -/
def EvS2 (wi : TI) (σ : L2.St) (H : Hp) (n : Nat) (xs ys : Nat → Option V) : Prop := ∀ H1, Ex H H1 → ∀ R : It → Hp → Prop,
  (∀ (J : It) (H2 : Hp) (G : Hp → Prop), Ex H1 H2 → Walk J n G (YPair xs ys) → (∀ H3, Ex H2 H3 → G H3) → R J H2) → wi σ H1 R
theorem evs2_zipT {ta : TA} {a b : Addr} {xs ys : List V} {n : Nat} (h : EvA ta σ H [.ref a, .ref b]) (hx : SqT K H a xs) (hy : SqT K H b ys) (hn : n = min xs.length ys.length) : EvS2 (RZ.iZipA K ta) σ H n (fun i => xs[i]?) (fun i => ys[i]?) := fun H1 e R k =>
  h H1 e _ fun H2 e2 => ⟨a, b, xs, ys, rfl, .inr ⟨ex_t (e.trans e2) hx, ex_t (e.trans e2) hy, k _ H2 _ e2 (walk_zipT hn) fun H3 e3 => ⟨ex_t ((e.trans e2).trans e3) hx, ex_t ((e.trans e2).trans e3) hy⟩⟩⟩
theorem evs2_enT {ta : TA} {a : Addr} {xs : List V} (h : EvA ta σ H [.ref a]) (hx : SqT K H a xs) : EvS2 (iEnT K ta) σ H xs.length (fun i => some (.int (i : Nat))) (fun i => xs[i]?) := fun H1 e R k =>
  h H1 e _ fun H2 e2 => ⟨a, xs, rfl, ex_t (e.trans e2) hx, k _ H2 _ e2 walk_enT fun H3 e3 => ex_t ((e.trans e2).trans e3) hx⟩
/-- [te for a, b in .. if t] -/
theorem elp_lc2 {α : Type} {wi : TI} {i1 i2 n : Nat} {vs : List Nat} {xs ys : Nat → Option V} (items : List α) (f : α → Bool) (P : α → V → Hp → Prop) (hm : ∀ a y H H', Ei H H' → P a y H → P a y H')
    (hS : EvS2 wi σ H n xs ys) (hl : n = items.length) (hz : n ≤ 50000) (hw : ∀ x y, wipe (((wipe σ vs).set i1 (some x)).set i2 (some y)) vs = wipe σ vs)
    (step : ∀ (i : Nat) (x y : V) (a : α) H1, Ex H H1 → xs i = some x → ys i = some y → items[i]? = some a → EvT t (((wipe σ vs).set i1 (some x)).set i2 (some y)) H1 (f a) ∧ (f a = true → EvP te (((wipe σ vs).set i1 (some x)).set i2 (some y)) H1 (P a))) :
    ∀ H1, Ex H H1 → ∀ Q : VK, (∀ p ys H2, H1 p = none → Ex H1 H2 → H2 p = some (.lst ys) → Each P H2 (items.filter f) ys → Q (.ref p) H2) → tLc wi (gTup K 2 (gCons (gName i1) (gCons (gName i2) gNil))) t te vs σ H1 Q := fun H1 e Q q =>
  hS H1 e _ fun J H2 G e2 hW hG D hD => by
    refine lc_it hW (fun i H' => ∃ ys, Ex H2 H' ∧ H' D = some (.lst ys) ∧ ys.length ≤ i ∧ Each P H' ((items.take i).filter f) ys) ⟨[], Ex.new hD, upd_same, Nat.zero_le _, .nil⟩ (fun i H' _ p => ?_) (fun i v H' H'' hi p y => ?_) fun H' p => ?_
    · obtain ⟨ys, p1, _⟩ := p
      exact hG H' p1
    · obtain ⟨zs, p1, p2, p3, p4⟩ := p
      obtain ⟨T, x, y, rfl, hT, rfl, hx, hy⟩ := y
      obtain ⟨a, ha⟩ : ∃ a, items[i]? = some a := ⟨items[i]'(by omega), by simp [show i < items.length by omega]⟩
      have eT := same_new (o := .tup [x, y]) hT
      obtain ⟨s1, s2⟩ := step i x y a _ ((e.trans e2).trans (p1.trans eT)) hx hy ha
      refine ⟨T, [x, y], rfl, sqT_of upd_same, rfl, _, _, rfl, _, _, rfl, rfl, hw x y, s1 _ (Ex.refl _) _ fun H3 e3 => ?_⟩
      have p2' := eT D _ p2
      cases hf : f a with
      | true =>
        rw [if_pos rfl]
        refine s2 hf H3 e3 _ fun y H4 e4 py => ⟨zs, e4 D _ (e3 D _ p2'), sz_lt (by omega), zs ++ [y], (Ex.mut (((p1.trans eT).trans e3).trans e4) hD), upd_same, by simp; omega, ?_⟩
        rw [take_succ_filter f ha, hf, if_pos rfl]
        exact (Each.snoc py (p4.mono hm (ei_ex ((eT.trans e3).trans e4)))).mono hm (ei_lst (e4 D _ (e3 D _ p2')))
      | false =>
        rw [if_neg Bool.false_ne_true]
        refine ⟨zs, (p1.trans eT).trans e3, e3 D _ p2', by omega, ?_⟩
        rw [take_succ_filter f ha, hf, if_neg Bool.false_ne_true, List.append_nil]
        exact p4.mono hm (ei_ex (eT.trans e3))
    · obtain ⟨ys, p1, p2, p3, p4⟩ := p
      rw [hl, List.take_length] at p4
      exact q D ys H' (fresh_back e2 hD) (e2.trans p1) p2 p4
theorem el_lc2 {α : Type} {wi : TI} {i1 i2 n : Nat} {vs : List Nat} {xs ys : Nat → Option V} (items : List α) (f : α → Bool) (g : α → V)
    (hS : EvS2 wi σ H n xs ys) (hl : n = items.length) (hz : n ≤ 50000) (hw : ∀ x y, wipe (((wipe σ vs).set i1 (some x)).set i2 (some y)) vs = wipe σ vs)
    (step : ∀ (i : Nat) (x y : V) (a : α) H1, Ex H H1 → xs i = some x → ys i = some y → items[i]? = some a → EvT t (((wipe σ vs).set i1 (some x)).set i2 (some y)) H1 (f a) ∧ (f a = true → Ev te (((wipe σ vs).set i1 (some x)).set i2 (some y)) H1 (g a))) :
    EvL (tLc wi (gTup K 2 (gCons (gName i1) (gCons (gName i2) gNil))) t te vs) σ H ((items.filter f).map g) := fun H1 e Q q =>
  elp_lc2 items f (fun a y _ => y = g a) (fun _ _ _ _ _ h => h) hS hl hz hw (fun i x y a H2 e2 hx hy ha => ⟨(step i x y a H2 e2 hx hy ha).1, fun hf => evp_v ((step i x y a H2 e2 hx hy ha).2 hf)⟩) H1 e Q fun p ys H2 hp e2 h2 h3 => by
    have := Each.map h3
    subst this
    exact q p H2 hp e2 h2
end
theorem ev_lenNE {K : Fg} {σ : L2.St} {H : Hp} {te : TE} {xs : List V} {n : Nat} (ha : EvL te σ H xs) (hn : xs.length = n) : Ev (tCB (rLenS K) (tCons te tNil)) σ H (.int (n : Nat)) := by
  subst hn
  exact ev_lenN ha
section
variable {X : Cx} {K : Fg} {e e2 : Expr} {ta : TA} {p pos tpos : Pos} {elts : List Expr} {kk : Nat}
theorem pi_enumTk (hg : Gl X "enumerate") (hm : X.mg "enumerate" = none) (ha : PA X [e] ta) (h : X.K = K := by rfl) (hs : starEach [e] X.env = [(false, eval e X.env)] := by rfl) :
    PI X (.Tuple elts kk tpos) (.Call (.Name "enumerate" p) [e] [] pos) (iEnT K ta) := by
  subst h
  exact pi_enumT hg hm ha hs
theorem pi_zipAk (hg : Gl X "zip") (hm : X.mg "zip" = none) (ha : PA X [e, e2] ta) (h : X.K = K := by rfl) (hs : starEach [e, e2] X.env = (false, eval e X.env) :: starEach [e2] X.env := by rfl) (hpl : (backTo pos (starEach [e2] X.env)).any (·.1) = false := by rfl) :
    PI X (.Tuple elts kk tpos) (.Call (.Name "zip" p) [e, e2] [] pos) (RZ.iZipA K ta) := by
  subst h
  exact RZ.pi_zipA hg hm ha hs hpl
end
/-- keywords of a def without defaults -/
theorem kbindsN {K : Fg} {x qual : Str} {params : Arguments} {body : List Stmt} {scope : Scope} {kws : List (Str × V)} {f : Addr} {fd : FuncData} {ps : List Str} (F : FunD K x qual params body scope [] kws f fd) (n : Nat) (ks : List Str)
    (h : ∀ (kV doc pm : Value) (an : Option Addr) (cdv ct : Value) (us ws : List Value), us.length = n → ws.length = ks.length → bindArgs (PySem.W.fnOf x qual params body scope .none kV doc pm an cdv ct) ⟨us, ks.zip ws⟩ = pure (ps.zip (us ++ ws))) : KBn K fd ps n ks (fun us ws => us ++ ws) (fun vs zs => vs ++ zs) := by
  obtain ⟨oc, od, dV, kV, doc, pm, an, cdv, ct, osl, rfl, lk, hcd, hD, hK⟩ := F.ex
  rcases hD with ⟨_, rfl⟩ | ⟨e, _⟩
  · exact ⟨fun s us ws X l1 l2 => .of_eq (h kV doc pm an cdv ct us ws l1 l2), fun r z => r.append z⟩
  · exact absurd rfl e
section
variable {K : Fg} {σ : L2.St} {H : Hp} {ta tb te : TE} {v w : V} {D : Ends} {tz : TS} {g1 g2 : TG}
/-- a, b = a new pair -/
theorem q_unpack2 (h : EvU te σ H [v, w]) (k : ∀ t H1, H t = none → Ex H H1 → H1 t = some (.tup [v, w]) → g1 v σ H1 fun σ1 H2 => gCons g2 gNil [w] σ1 H2 fun σ2 H3 => tz D σ2 H3) : tSeq (tAsg te (gTup K 2 (gCons g1 (gCons g2 gNil)))) tz D σ H :=
  h H (Ex.refl H) _ fun t H1 nt e ht => ⟨t, [v, w], rfl, sqT_of ht, rfl, v, [w], rfl, k t H1 nt e ht⟩
theorem g_setL {l : Addr} {xs : List V} {j : Nat} {Q : L2.St → Hp → Prop} (hl : H l = some (.lst xs)) (ho : Ev ta σ H (.ref l)) (hi : Ev tb σ H (.int (j : Int))) (hj : j < xs.length) (k : ∀ H1, Ex H H1 → Q σ (upd H1 l (.lst (xs.set j v)))) : gSub ta tb rSetL v σ H Q :=
  ho H (Ex.refl H) _ fun H1 e1 => hi H1 e1 _ fun H2 e2 => ⟨l, xs, (j : Int), j, rfl, rfl, (e1.trans e2) l _ hl, ixN_nat hj, k H2 (e1.trans e2)⟩
theorem eu_divmod {t : TA} {i j : Int} (h : EvA t σ H [.int i, .int j]) (c : CDiv i j) : EvU (tCB (fun xs H Q => ∃ i j, xs = [.int i, .int j] ∧ CDiv i j ∧ ∀ p, H p = none → Q (.ref p) (upd H p (.tup [.int (i / j), .int (i % j)]))) t) σ H [.int (i / j), .int (i % j)] := fun H1 e Q q =>
  h H1 e _ fun H2 e2 => ⟨i, j, rfl, c, fun p np => q p _ (fresh_back e2 np) (e2.trans (same_new np)) upd_same⟩
theorem gname_ {i : Nat} {Q : L2.St → Hp → Prop} (k : Q (σ.set i (some v)) H) : gName i v σ H Q := k
end
end RV

/-! RvJ: == and != of own objects. -/
namespace RV
open PySem PySem.Spec PyProof.Rows L2 Evl

/-- a class whose == and != are object's own; one with an own == and object's != -/
structure EqF (K : Fg) (C : Addr) : Prop where
  eq : PySem.W.findIn K (.ref C) "__eq__" = some (some (.builtin "object.__eq__"))
  ne : PySem.W.findIn K (.ref C) "__ne__" = some (some (.builtin "object.__ne__"))
  hm : PySem.W.mroIn K C (.type "object") = some true
structure EqO (K : Fg) (C f : Addr) : Prop where
  eq : PySem.W.findIn K (.ref C) "__eq__" = some (some (.ref f))
  fn : PySem.W.isFn K (.ref f) = true
  ne : PySem.W.findIn K (.ref C) "__ne__" = some (some (.builtin "object.__ne__"))
  hm : PySem.W.mroIn K C (.type "object") = some true
def eqfB (C : Str) : Fg → Bool := fun K => He.eqO (PySem.W.findIn K (.ref (He.ga K C)) "__eq__") (some (some (.builtin "object.__eq__"))) && (He.eqO (PySem.W.findIn K (.ref (He.ga K C)) "__ne__") (some (some (.builtin "object.__ne__"))) && decide (PySem.W.mroIn K (He.ga K C) (.type "object") = some true))
def eqoB (C : Str) : Fg → Bool := fun K => ownB C "__eq__" K && (He.eqO (PySem.W.findIn K (.ref (He.ga K C)) "__ne__") (some (some (.builtin "object.__ne__"))) && decide (PySem.W.mroIn K (He.ga K C) (.type "object") = some true))
def subB (C D : Str) : Fg → Bool := fun K => decide (PySem.W.subIn K (.ref (He.ga K C)) (.ref (He.ga K D)) = some false)
def subTB (C : Str) (T : String) : Fg → Bool := fun K => decide (PySem.W.subIn K (.ref (He.ga K C)) (.type T) = some false)
section
variable {fx : List (Fg → Bool)} {fn : List DX} {K : Fg} {mg : Str → Option Value}
theorem Tx.eqf (T : Tx fx fn K mg) (i : Nat) {C : Str} (h : fx[i]? = some (eqfB C) := by rfl) : EqF K (He.ga K C) := by
  obtain ⟨c1, c⟩ := He.ba (T.says.fact i h)
  obtain ⟨c2, c3⟩ := He.ba c
  exact ⟨He.eqO_ok c1, He.eqO_ok c2, of_decide_eq_true c3⟩
theorem Tx.eqo (T : Tx fx fn K mg) (i : Nat) {C : Str} (h : fx[i]? = some (eqoB C) := by rfl) : EqO K (He.ga K C) (At.a K (.met C "__eq__")) := by
  obtain ⟨c1, c⟩ := He.ba (T.says.fact i h)
  obtain ⟨c2, c3⟩ := He.ba c
  have := own_ok c1
  exact ⟨this.at_, this.fn, He.eqO_ok c2, of_decide_eq_true c3⟩
theorem Tx.sub (T : Tx fx fn K mg) (i : Nat) {C D : Str} (h : fx[i]? = some (subB C D) := by rfl) : PySem.W.subIn K (.ref (He.ga K C)) (.ref (He.ga K D)) = some false := of_decide_eq_true (T.says.fact i h)
theorem Tx.subT (T : Tx fx fn K mg) (i : Nat) {C : Str} {t : String} (h : fx[i]? = some (subTB C t) := by rfl) : PySem.W.subIn K (.ref (He.ga K C)) (.type t) = some false := of_decide_eq_true (T.says.fact i h)
end
section
variable {M : Model} {prog : Program} {w : World} {A : Around} {E : Value → Shared → Prop} {s : Shared} {K : Fg} {x C f : Addr} {ox : Obj} {od : Option Obj} {b : Value}
/-- b is another thing than the object at x -/
def Oth (s : Shared) (x : Addr) (b : Value) : Prop := ∀ (M : Model) (A : Around) (E : Value → Shared → Prop) (R : Bool → Shared → Prop), R false s → wpAny M A (isSame (.ref x) b) R E s
theorem oth_non : Oth s x .none := fun M A E R h => wpAny_of_eq (rfl : isSame (.ref x) .none = pure false) h
theorem oth_ref {y : Addr} {oy : Obj} (h : x ≠ y) (I : PySem.W.InstAt s.heap x ox C od) (hy : s.heap.get? y = some oy) : Oth s x (.ref y) := fun M A E R hr => by
  obtain ⟨hx, hc, _⟩ := id I
  have hxy : (x == y) = false := beq_eq_false_iff_ne.mpr h
  obtain ⟨hp, g, d, tk, os⟩ := s
  unfold isSame
  simp only [hxy, Bool.false_eq_true, if_false]
  refine wpAny_bind (wpAny_load hx (wpAny_bind (wpAny_load hy ?_)))
  rw [hc]
  exact wpAny_pure hr
theorem entry_deq (hb : Oth s x b) {Q : Fin → Shared → Prop} (hq : Q (.done (.ret .notImplemented)) s) : wpAny M A (Builtin.«object.__eq__» ⟨[.ref x, b], []⟩) Q E s := by
  unfold Oth at hb
  unfold Builtin.«object.__eq__»
  repeat (first | with_reducible refine hb _ _ _ _ ?_ | wp_step)
  exact hq
theorem call_deq (hb : Oth s x b) {Q : Value → Shared → Prop} (X : K.In s.heap) (I : PySem.W.InstAt s.heap x ox C od) (hm : PySem.W.mroIn K C (.type "object") = some true) (hq : Q .notImplemented s) :
    wpAny (model prog w) A (call (.builtin "object.__eq__") [.ref x, b]) Q E s :=
  wpAny_call (codeAny_call_builtin F.cmp_object.eq.plain F.cmpEntry_eq (PySem.W.check_slot F.cmpKind_eq F.cmpSplit_eq (I.type.andThen (PySem.W.looks_mroIn X hm)) (F.cmpArgs_eq _ _) (entry_deq hb hq)))
theorem try_deq (hb : Oth s x b) (c : EqF K C) (X : K.In s.heap) (I : PySem.W.InstAt s.heap x ox C od) {Q : Option Value → Shared → Prop} (hq : Q none s) : wpAny (model prog w) A (tryCompare (.ref x) "__eq__" b) Q E s := by
  unfold tryCompare
  exact wpAny_bind (HN.ifBound_objEq X I c.eq (call_deq hb X I c.hm (wpAny_pure hq)))
/-- a bound builtin -/
theorem ifBound_objNe {args : List Value} {Q : Option Value → Shared → Prop} (X : K.In s.heap) (I : PySem.W.InstAt s.heap x ox C od) (hs : PySem.W.findIn K (.ref C) "__ne__" = some (some (.builtin "object.__ne__")))
    (h : wpAny M A (call (.builtin "object.__ne__") (.ref x :: args)) (fun v => Q (some v)) E s) : wpAny M A (callSpecialIfBound? (.ref x) "__ne__" args) Q E s := by
  simp only [callSpecialIfBound?, bindSpecialIfBound?]
  refine wpAny_holding (wpAny_bind (wpAny_bind (wpAny_bind (I.type.here ((PySem.W.looks_findIn X hs).here ?_)))))
  refine wpAny_bind (wpAny_askSetting (wpAny_ite ?_))
  have fin : wpAny M A (call (.builtin "object.__ne__") ([.ref x] ++ args) >>= fun v => pure (some v)) Q E s := wpAny_bind (wpAny_mono h (fun v s' h' => wpAny_pure h') fun _ _ h' => h')
  split
  · exact wpAny_bind (wpAny_of_eq (F.cmp_object.ne.bind _) (wpAny_pure (by exact fin)))
  · exact wpAny_tryCatch (wpAny_bind (wpAny_of_eq (F.cmp_object.ne.bind _) (wpAny_pure (by exact fin))))
theorem entry_dne (hb : Oth s x b) (c : EqF K C) (X : K.In s.heap) (I : PySem.W.InstAt s.heap x ox C od) (hu : A.units < cLine) {Q : Fin → Shared → Prop} (hq : Q (.done (.ret .notImplemented)) s) :
    wpAny (model prog w) A (Builtin.«object.__ne__» ⟨[.ref x, b], []⟩) Q E s := by
  unfold Builtin.«object.__ne__»
  repeat (first
    | with_reducible refine wpAny_cRoomFor hu ?_
    | (refine wpAny_bind (m := callSpecialIfBound? (.ref x) (Str.ofString "__eq__") [b]) (HN.ifBound_objEq X I c.eq (call_deq hb X I c.hm ?_)))
    | wp_step)
  exact hq
theorem try_dne (hb : Oth s x b) (c : EqF K C) (X : K.In s.heap) (I : PySem.W.InstAt s.heap x ox C od) (hu : A.units + 1 < cLine) {Q : Option Value → Shared → Prop} (hq : Q none s) : wpAny (model prog w) A (tryCompare (.ref x) "__ne__" b) Q E s := by
  unfold tryCompare
  refine wpAny_bind (ifBound_objNe X I c.ne (wpAny_call (codeAny_call_builtin F.cmp_object.ne.plain F.cmpEntry_ne (PySem.W.check_slot F.cmpKind_ne F.cmpSplit_ne (I.type.andThen (PySem.W.looks_mroIn X c.hm)) (F.cmpArgs_ne _ _) (entry_dne (A := A.in1) hb c X I hu ?_)))))
  first
  | exact wpAny_pure hq
  | exact hq
/-- an own ==: what it returns, a truth value -/
theorem try_oeq (c : EqO K C f) (X : K.In s.heap) (I : PySem.W.InstAt s.heap x ox C od) {Q : Option Value → Shared → Prop}
    (h : wpAny (model prog w) A (call (.ref f) [.ref x, b]) (fun v s' => ∃ r, v = .bool r ∧ Q (some (.bool r)) s') E s) : wpAny (model prog w) A (tryCompare (.ref x) "__eq__" b) Q E s := by
  unfold tryCompare
  refine wpAny_bind (PySem.W.ifBound_K X I c.eq c.fn (wpAny_mono h (fun v s' hv => ?_) fun _ _ e => e))
  obtain ⟨r, rfl, hq⟩ := hv
  exact wpAny_pure hq
theorem entry_one (c : EqO K C f) (X : K.In s.heap) (I : PySem.W.InstAt s.heap x ox C od) (hu : A.units < cLine) {Q : Fin → Shared → Prop}
    (h : wpAny (model prog w) A (call (.ref f) [.ref x, b]) (fun v s' => ∃ r, v = .bool r ∧ Q (.done (.ret (.bool (!r)))) s') E s) : wpAny (model prog w) A (Builtin.«object.__ne__» ⟨[.ref x, b], []⟩) Q E s := by
  unfold Builtin.«object.__ne__»
  repeat (first
    | with_reducible refine wpAny_cRoomFor hu ?_
    | (refine wpAny_bind (m := callSpecialIfBound? (.ref x) (Str.ofString "__eq__") [b]) (PySem.W.ifBound_K X I c.eq c.fn (wpAny_mono h (fun v s' hv => by
        obtain ⟨r, rfl, hq⟩ := hv
        repeat (first | exact hq | exact wpAny_pure hq | exact wpAny_truthy_bool hq | (refine wpAny_bind (m := truthy (.bool _)) (wpAny_truthy_bool ?_)) | wp_step)) fun _ _ e => e)))
    | wp_step)
theorem try_one (c : EqO K C f) (X : K.In s.heap) (I : PySem.W.InstAt s.heap x ox C od) (hu : A.units + 1 < cLine) {Q : Option Value → Shared → Prop}
    (h : wpAny (model prog w) A.in1 (call (.ref f) [.ref x, b]) (fun v s' => ∃ r, v = .bool r ∧ Q (some (.bool (!r))) s') E s) : wpAny (model prog w) A (tryCompare (.ref x) "__ne__" b) Q E s := by
  unfold tryCompare
  refine wpAny_bind (ifBound_objNe X I c.ne (wpAny_call (codeAny_call_builtin F.cmp_object.ne.plain F.cmpEntry_ne (PySem.W.check_slot F.cmpKind_ne F.cmpSplit_ne (I.type.andThen (PySem.W.looks_mroIn X c.hm)) (F.cmpArgs_ne _ _) (entry_one (A := A.in1) c X I hu (wpAny_mono h (fun v s' hv => ?_) fun _ _ e => e))))))
  obtain ⟨r, rfl, hq⟩ := hv
  first | exact ⟨r, rfl, wpAny_pure hq⟩ | exact ⟨r, rfl, hq⟩
/-- None, tuples decline -/
theorem try_non_eq {Q : Option Value → Shared → Prop} (hq : Q none s) : wpAny (model prog w) A (tryCompare .none "__eq__" (.ref x)) Q E s :=
  wpAny_tryCompare_declines (show s.TypeIs .none "NoneType" from rfl) F.slot_NoneType_eq_refl (call_gives F.slot_NoneType_eq_refl rfl F.entry_NoneType_eq (F.args_NoneType_eq_2 _ _) (SeqAt.NoneType___eq___none_ref_0 x) ⟨rfl, hq⟩)
theorem try_non_ne {Q : Option Value → Shared → Prop} (hq : Q none s) : wpAny (model prog w) A (tryCompare .none "__ne__" (.ref x)) Q E s :=
  wpAny_tryCompare_declines (show s.TypeIs .none "NoneType" from rfl) F.slot_NoneType_ne_refl (call_gives F.slot_NoneType_ne_refl rfl F.entry_NoneType_ne (F.args_NoneType_ne_2 _ _) (SeqAt.NoneType___ne___none_ref_0 x) ⟨rfl, hq⟩)
theorem entry_tup_eq {t : Addr} (hs : PySem.W.subIn K (.ref C) (.type "tuple") = some false) (X : K.In s.heap) (I : PySem.W.InstAt s.heap x ox C od) {Q : Fin → Shared → Prop} (hq : Q (.done (.ret .notImplemented)) s) :
    wpAny M A (Builtin.«tuple.__eq__» ⟨[.ref t, .ref x], []⟩) Q E s := by
  have hi : ∀ (R : Bool → Shared → Prop), R false s → wpAny M A (isInstance (.ref x) (.type "tuple")) R E s := fun R hr => by
    unfold isInstance
    exact wpAny_bind (I.type.here ((PySem.W.looks_subIn X hs).here hr))
  obtain ⟨hp, g, d, tk, os⟩ := s
  wp_walk using hi
  exact hq
end
end RV

/-! RvK: == and != of own objects, the rules. -/
namespace RV
open PySem PySem.Spec PyProof.Rows L2 Evl
section
variable {M : Model} {prog : Program} {w : World} {A : Around} {E : Value → Shared → Prop} {s : Shared} {K : Fg} {x C f : Addr} {ox : Obj} {od : Option Obj} {b tb : Value}
theorem entry_tup_ne {t : Addr} (hs : PySem.W.subIn K (.ref C) (.type "tuple") = some false) (X : K.In s.heap) (I : PySem.W.InstAt s.heap x ox C od) {Q : Fin → Shared → Prop} (hq : Q (.done (.ret .notImplemented)) s) :
    wpAny M A (Builtin.«tuple.__ne__» ⟨[.ref t, .ref x], []⟩) Q E s := by
  have hi : ∀ (R : Bool → Shared → Prop), R false s → wpAny M A (isInstance (.ref x) (.type "tuple")) R E s := fun R hr => by
    unfold isInstance
    exact wpAny_bind (I.type.here ((PySem.W.looks_subIn X hs).here hr))
  obtain ⟨hp, g, d, tk, os⟩ := s
  wp_walk using hi
  exact hq
theorem try_tup_eq {t : Addr} {o : Obj} (ht : s.heap.get? t = some o) (hc : o.cls = .type "tuple") (hs : PySem.W.subIn K (.ref C) (.type "tuple") = some false) (X : K.In s.heap) (I : PySem.W.InstAt s.heap x ox C od) {Q : Option Value → Shared → Prop} (hq : Q none s) :
    wpAny (model prog w) A (tryCompare (.ref t) "__eq__" (.ref x)) Q E s :=
  wpAny_tryCompare_declines (show s.TypeIs (.ref t) "tuple" from ⟨o, ht, hc⟩) F.slot_tuple_eq_refl (wpAny_call (codeAny_call_builtin F.slot_tuple_eq_refl.plain F.entry_tuple_eq (F.slot_tuple_eq_refl.check _ _ _ _ _ _ _ _ (show s.TypeIs (.ref t) "tuple" from ⟨o, ht, hc⟩) (F.args_tuple_eq_2 _ _) (entry_tup_eq hs X I ⟨rfl, hq⟩))))
theorem try_tup_ne {t : Addr} {o : Obj} (ht : s.heap.get? t = some o) (hc : o.cls = .type "tuple") (hs : PySem.W.subIn K (.ref C) (.type "tuple") = some false) (X : K.In s.heap) (I : PySem.W.InstAt s.heap x ox C od) {Q : Option Value → Shared → Prop} (hq : Q none s) :
    wpAny (model prog w) A (tryCompare (.ref t) "__ne__" (.ref x)) Q E s :=
  wpAny_tryCompare_declines (show s.TypeIs (.ref t) "tuple" from ⟨o, ht, hc⟩) F.slot_tuple_ne_refl (wpAny_call (codeAny_call_builtin F.slot_tuple_ne_refl.plain F.entry_tuple_ne (F.slot_tuple_ne_refl.check _ _ _ _ _ _ _ _ (show s.TypeIs (.ref t) "tuple" from ⟨o, ht, hc⟩) (F.args_tuple_ne_2 _ _) (entry_tup_ne hs X I ⟨rfl, hq⟩))))
/-- the left one declines, the right one declines too, or says r -/
theorem rc_two {op : CmpOp} {nm : Str} {r : Bool} (hop : (op = .Eq ∧ nm = "__eq__" ∧ r = false) ∨ (op = .NotEq ∧ nm = "__ne__" ∧ r = true)) (hu : A.units < cLine) (X : K.In s.heap) (I : PySem.W.InstAt s.heap x ox C od) (hb : PySem.W.Looks (model prog w) s.heap (typeOf b) tb) (hn : PySem.W.notFirst K C tb = true) (ho : Oth s x b)
    {Q : Value → Shared → Prop} (h1 : wpAny (model prog w) A (tryCompare (.ref x) nm b) (fun r s' => r = none ∧ s' = s) E s)
    (h2 : wpAny (model prog w) A (tryCompare b nm (.ref x)) (fun o s' => (o = none ∧ s' = s ∧ Q (.bool r) s) ∨ ∃ v, o = some v ∧ Q v s') E s) : wpAny (model prog w) A (richCompare op (.ref x) b) Q E s := by
  rcases hop with ⟨rfl, rfl, rfl⟩ | ⟨rfl, rfl, rfl⟩
  · unfold richCompare
    simp only [oneThing_ref, cmpInfo_Eq]
    refine wpAny_holding (wpAny_bind (wpAny_cRoomFor hu ?_))
    refine wpAny_bind (I.type.here (wpAny_bind (hb.here ?_)))
    have go : ∀ (rf : Bool), rf = false → wpAny (model prog w) A (do
        if rf = true then
          if let some v ← tryCompare b "__eq__" (.ref x) then
            rule "compare.subclass-reflected-first"
            return v
        if let some v ← tryCompare (.ref x) "__eq__" b then return v
        if (!rf) = true then
          if let some v ← tryCompare b "__eq__" (.ref x) then return v
        rule "compare.eq-identity"
        return .bool (← isSame (.ref x) b)) Q E s := fun rf hrf => by
      subst hrf
      simp only [Bool.false_eq_true, if_false, Bool.not_false, if_true]
      refine wpAny_bind (m := tryCompare (.ref x) _ b) (wpAny_mono h1 (fun o s1 z => ?_) fun _ _ e => e)
      obtain ⟨rfl, rfl⟩ := z
      refine wpAny_bind (m := tryCompare b _ (.ref x)) (wpAny_mono h2 (fun o s2 z => ?_) fun _ _ e => e)
      rcases z with ⟨rfl, rfl, hq⟩ | ⟨v, rfl, hq⟩
      · exact wpAny_bind (wpAny_rule (wpAny_bind (ho _ _ _ _ (wpAny_pure hq))))
      · exact wpAny_pure hq
    split
    · rename_i q
      have e : PySem.W.subIn K tb (.ref C) = some false := by
        rcases Bool.or_eq_true_iff.mp hn with e | e
        · rw [beq_iff_eq.mp e] at q; simp at q
        · exact beq_iff_eq.mp e
      refine wpAny_bind ((PySem.W.looks_subIn X e).here ?_)
      exact go false rfl
    · refine wpAny_bind (wpAny_pure ?_)
      exact go false rfl
  · unfold richCompare
    simp only [oneThing_ref, cmpInfo_NotEq]
    refine wpAny_holding (wpAny_bind (wpAny_cRoomFor hu ?_))
    refine wpAny_bind (I.type.here (wpAny_bind (hb.here ?_)))
    have go : ∀ (rf : Bool), rf = false → wpAny (model prog w) A (do
        if rf = true then
          if let some v ← tryCompare b "__ne__" (.ref x) then
            rule "compare.subclass-reflected-first"
            return v
        if let some v ← tryCompare (.ref x) "__ne__" b then return v
        if (!rf) = true then
          if let some v ← tryCompare b "__ne__" (.ref x) then return v
        rule "compare.ne-identity"
        return .bool (!(← isSame (.ref x) b))) Q E s := fun rf hrf => by
      subst hrf
      simp only [Bool.false_eq_true, if_false, Bool.not_false, if_true]
      refine wpAny_bind (m := tryCompare (.ref x) _ b) (wpAny_mono h1 (fun o s1 z => ?_) fun _ _ e => e)
      obtain ⟨rfl, rfl⟩ := z
      refine wpAny_bind (m := tryCompare b _ (.ref x)) (wpAny_mono h2 (fun o s2 z => ?_) fun _ _ e => e)
      rcases z with ⟨rfl, rfl, hq⟩ | ⟨v, rfl, hq⟩
      · exact wpAny_bind (wpAny_rule (wpAny_bind (ho _ _ _ _ (wpAny_pure hq))))
      · exact wpAny_pure hq
    split
    · rename_i q
      have e : PySem.W.subIn K tb (.ref C) = some false := by
        rcases Bool.or_eq_true_iff.mp hn with e | e
        · rw [beq_iff_eq.mp e] at q; simp at q
        · exact beq_iff_eq.mp e
      refine wpAny_bind ((PySem.W.looks_subIn X e).here ?_)
      exact go false rfl
    · refine wpAny_bind (wpAny_pure ?_)
      exact go false rfl
end
end RV

/-! RvL: readings of == and != of own objects. -/
namespace RV
open PySem PySem.Spec PyProof.Rows L2 Evl
section
variable {M : Model} {prog : Program} {w : World} {A : Around} {E : Value → Shared → Prop} {s : Shared} {K : Fg} {x C f : Addr} {ox : Obj} {od : Option Obj} {b tb : Value}
theorem rc_left {op : CmpOp} {nm : Str} (hop : (op = .Eq ∧ nm = "__eq__") ∨ (op = .NotEq ∧ nm = "__ne__")) (hu : A.units < cLine) (X : K.In s.heap) (I : PySem.W.InstAt s.heap x ox C od) (hb : PySem.W.Looks (model prog w) s.heap (typeOf b) tb) (hn : PySem.W.notFirst K C tb = true)
    {Q : Value → Shared → Prop} (h1 : wpAny (model prog w) A (tryCompare (.ref x) nm b) (fun o s' => ∃ v, o = some v ∧ Q v s') E s) : wpAny (model prog w) A (richCompare op (.ref x) b) Q E s := by
  have h2 : wpAny (model prog w) A (tryCompare (.ref x) (cmpInfo op).2.1 b) (fun o s' => ∃ v, o = some v ∧ Q v s') E s := by
    rcases hop with ⟨rfl, rfl⟩ | ⟨rfl, rfl⟩ <;> exact h1
  unfold richCompare
  simp only [oneThing_ref]
  refine wpAny_holding (wpAny_bind (wpAny_cRoomFor hu ?_))
  refine wpAny_bind (I.type.here (wpAny_bind (hb.here ?_)))
  split
  · rename_i q
    have e : PySem.W.subIn K tb (.ref C) = some false := by
      rcases Bool.or_eq_true_iff.mp hn with e | e
      · rw [beq_iff_eq.mp e] at q; simp at q
      · exact beq_iff_eq.mp e
    refine wpAny_bind ((PySem.W.looks_subIn X e).here ?_)
    simp only [Bool.false_eq_true, if_false]
    refine wpAny_bind (wpAny_mono h2 (fun r s' z => ?_) fun _ _ e => e)
    obtain ⟨v, rfl, hq⟩ := z
    exact wpAny_pure hq
  · refine wpAny_bind (wpAny_pure ?_)
    simp only [Bool.false_eq_true, if_false]
    refine wpAny_bind (wpAny_mono h2 (fun r s' z => ?_) fun _ _ e => e)
    obtain ⟨v, rfl, hq⟩ := z
    exact wpAny_pure hq
theorem sub_tup : PySem.W.subIn K (.type "tuple") (.ref C) = some false := by
  have e : fastBuiltinMro "tuple" = some [.type "tuple", .type "object"] := by decide +kernel
  show (fastBuiltinMro "tuple").map (·.contains (.ref C)) = some false
  rw [e]
  first
    | rfl
    | simp
theorem nf_of {t : Value} (h : PySem.W.subIn K t (.ref C) = some false) : PySem.W.notFirst K C t = true := by
  unfold PySem.W.notFirst
  rw [h]
  simp
theorem nf_self : PySem.W.notFirst K C (.ref C) = true := by simp [PySem.W.notFirst]
end
/-! ### the promise of an own == -/
structure Opq (P : Program) (w : World) (K : Fg) (mg : Str → Option Value) (base : Heap) (k : Nat) (C : Addr) (sp : Sp) : Prop where
  ex : ∃ (f : Addr) (fd : FuncData) (ps : List Str), EqO K C f ∧ FnOk P w K mg base (L2.CX P w) k f fd ps sp ∧ Binds K fd ps []
theorem opq_of {P : Program} {w : World} {K : Fg} {mg : Str → Option Value} {base : Heap} {k : Nat} {C f : Addr} {sp : Sp} (h : EqO K C f) (o : CalA P w K mg base k f sp []) : Opq P w K mg base k C sp := by
  obtain ⟨fd, ps, ds, F, kp, b, d⟩ := o.ex
  cases d
  exact ⟨f, fd, ps, h, F, b⟩
section
variable {X : Cx} {pins : List (Addr × Obj)} {σ : L2.St} {H : Hp} {s : Shared} {a dx C D : Addr} {fs : List (Str × V)} {k j : Nat} {m : Str} {sp : Sp}
/-- x == y, x != y: x of a class with an own == -/
def rEqO (K : Fg) (C : Addr) (sp : Sp) (neg : Bool) : R2 := fun x y H Q => ∃ a dx fs b D dy gs, x = .ref a ∧ H a = some (.ins C dx fs) ∧ y = .ref b ∧ H b = some (.ins D dy gs) ∧ PySem.W.notFirst K C (.ref D) = true ∧ sp [.ref a, .ref b] H (fun v H' => ∃ r, v = .bl r ∧ Q (.bl (if neg then !r else r)) H') E0
theorem op_eqO (c : Opq X.prog X.w X.K X.mg X.base k C sp) (hr : Room j X.A) (hk : k + 1 ≤ j) : OpR X (compareOp .Eq) (rEqO X.K C sp false) := by
  intro pins s σ H x y v u Q I rx ry h
  obtain ⟨f, fd, ps, O, F, b⟩ := c.ex
  obtain ⟨a, dx, fs, y, D, dy, gs, rfl, ha, rfl, hy, hn, q⟩ := h
  obtain ⟨ox, od, J⟩ := inst_at I ha
  obtain ⟨oy, ody, Jy⟩ := inst_at I hy
  cases rx
  cases ry
  refine PySem.W.cmp_ofEq (rc_left (.inl ⟨rfl, rfl⟩) (by have := (hr.mono hk).units0; exact this) I.kIn J Jy.type hn (try_oeq O I.kIn J (thn (run_in F b (hr.mono (Nat.le_of_succ_le hk)) I I.env0 (.cons (rel_ref a) (.cons (rel_ref y) .nil)) q) fun u s1 ⟨v, H1, I1, rv, r, ev, q1⟩ => ?_)))
  subst ev
  cases rv
  exact ⟨r, rfl, _, rfl, .bl r, H1, I1, rfl, q1⟩
theorem op_neO (c : Opq X.prog X.w X.K X.mg X.base k C sp) (hr : Room j X.A) (hk : k + 1 ≤ j) : OpR X (compareOp .NotEq) (rEqO X.K C sp true) := by
  intro pins s σ H x y v u Q I rx ry h
  obtain ⟨f, fd, ps, O, F, b⟩ := c.ex
  obtain ⟨a, dx, fs, y, D, dy, gs, rfl, ha, rfl, hy, hn, q⟩ := h
  obtain ⟨ox, od, J⟩ := inst_at I ha
  obtain ⟨oy, ody, Jy⟩ := inst_at I hy
  cases rx
  cases ry
  refine PySem.W.cmp_ofNotEq (rc_left (.inr ⟨rfl, rfl⟩) (by have := (hr.mono hk).units0; exact this) I.kIn J Jy.type hn (try_one O I.kIn J (by have := (hr.mono hk).in1.units0; exact this) (thn (run_in F b (hr.mono hk).in1 I I.env0.in1 (.cons (rel_ref a) (.cons (rel_ref y) .nil)) q) fun u s1 ⟨v, H1, I1, rv, r, ev, q1⟩ => ?_)))
  subst ev
  cases rv
  exact ⟨r, rfl, _, rfl, .bl (!r), H1, I1, rfl, q1⟩
/-- x == y, x != y: x of a class without an == of its own, y another thing; instances of the class at D have an own == -/
def rEqF (K : Fg) (D : Addr) (sp : Sp) (neg : Bool) : R2 := fun x y H Q => ∃ a C dx fs, x = .ref a ∧ H a = some (.ins C dx fs) ∧ EqF K C ∧ PySem.W.subIn K (.ref C) (.type "tuple") = some false ∧
  ((y = .non ∧ Q (.bl neg) H) ∨ (∃ t xs, y = .ref t ∧ H t = some (.tup xs) ∧ Q (.bl neg) H) ∨ (∃ b B dy gs, y = .ref b ∧ a ≠ b ∧ H b = some (.ins B dy gs) ∧ EqF K B ∧ PySem.W.notFirst K C (.ref B) = true ∧ Q (.bl neg) H) ∨
    (∃ b dy gs, y = .ref b ∧ H b = some (.ins D dy gs) ∧ PySem.W.notFirst K C (.ref D) = true ∧ sp [.ref b, .ref a] H (fun v H' => v = .bl false ∧ Q (.bl neg) H') E0))
theorem op_eqF (c : Opq X.prog X.w X.K X.mg X.base k D sp) (hr : Room j X.A) (hk : k + 1 ≤ j) : OpR X (compareOp .Eq) (rEqF X.K D sp false) := by
  intro pins s σ H x y v u Q I rx ry h
  obtain ⟨f, fd, ps, O, F, b⟩ := c.ex
  obtain ⟨a, C, dx, fs, rfl, ha, cf, ct, h⟩ := h
  obtain ⟨ox, od, J⟩ := inst_at I ha
  have hu : X.A.units < cLine := by have := (hr.mono hk).units0; exact this
  cases rx
  rcases h with ⟨rfl, q⟩ | ⟨t, xs, rfl, ht, q⟩ | ⟨b', B, dy, gs, rfl, hab, hB, cB, hn, q⟩ | ⟨b', dy, gs, rfl, hB, hn, q⟩
  · cases ry
    exact PySem.W.cmp_ofEq (rc_two (.inl ⟨rfl, rfl, rfl⟩) hu I.kIn J (PySem.W.Looks.of_pure rfl) (nf_of HN.sub_none) oth_non (try_deq oth_non cf I.kIn J ⟨rfl, rfl⟩) (try_non_eq (.inl ⟨rfl, rfl, .bl false, H, I, rfl, q⟩)))
  · cases ry
    obtain ⟨its, rv, p, hz⟩ := I.tuple (sqT_of ht)
    obtain ⟨o, ho, hc, n, hd⟩ := p
    have hat : a ≠ t := fun z => by
      rw [z, ht] at ha
      cases ha
    exact PySem.W.cmp_ofEq (rc_two (.inl ⟨rfl, rfl, rfl⟩) hu I.kIn J ((PySem.W.Looks.ld ho).andThen (by rw [hc]; exact .now)) (nf_of sub_tup) (oth_ref hat J ho) (try_deq (oth_ref hat J ho) cf I.kIn J ⟨rfl, rfl⟩) (try_tup_eq ho hc ct I.kIn J (.inl ⟨rfl, rfl, .bl false, H, I, rfl, q⟩)))
  · cases ry
    obtain ⟨oy, ody, Jy⟩ := inst_at I hB
    exact PySem.W.cmp_ofEq (rc_two (.inl ⟨rfl, rfl, rfl⟩) hu I.kIn J Jy.type hn (oth_ref hab J Jy.at_) (try_deq (oth_ref hab J Jy.at_) cf I.kIn J ⟨rfl, rfl⟩) (try_deq (oth_ref (Ne.symm hab) Jy J.at_) cB I.kIn Jy (.inl ⟨rfl, rfl, .bl false, H, I, rfl, q⟩)))
  · cases ry
    obtain ⟨oy, ody, Jy⟩ := inst_at I hB
    have hab : a ≠ b' := fun z => by
      subst z
      rw [ha] at hB
      cases hB
      have e := O.eq.symm.trans cf.eq
      cases e
    refine PySem.W.cmp_ofEq (rc_two (.inl ⟨rfl, rfl, rfl⟩) hu I.kIn J Jy.type hn (oth_ref hab J Jy.at_) (try_deq (oth_ref hab J Jy.at_) cf I.kIn J ⟨rfl, rfl⟩) (try_oeq O I.kIn Jy (thn (run_in F b (hr.mono (Nat.le_of_succ_le hk)) I I.env0 (.cons (rel_ref b') (.cons (rel_ref a) .nil)) q) fun u s1 ⟨v, H1, I1, rv, ev, q1⟩ => ?_)))
    subst ev
    cases rv
    exact ⟨false, rfl, .inr ⟨_, rfl, .bl false, H1, I1, rfl, q1⟩⟩
theorem op_neF (c : Opq X.prog X.w X.K X.mg X.base k D sp) (hr : Room j X.A) (hk : k + 1 ≤ j) : OpR X (compareOp .NotEq) (rEqF X.K D sp true) := by
  intro pins s σ H x y v u Q I rx ry h
  obtain ⟨f, fd, ps, O, F, b⟩ := c.ex
  obtain ⟨a, C, dx, fs, rfl, ha, cf, ct, h⟩ := h
  obtain ⟨ox, od, J⟩ := inst_at I ha
  have hu : X.A.units < cLine := by have := (hr.mono hk).units0; exact this
  have hu1 : X.A.units + 1 < cLine := by have := (hr.mono hk).in1.units0; exact this
  cases rx
  rcases h with ⟨rfl, q⟩ | ⟨t, xs, rfl, ht, q⟩ | ⟨b', B, dy, gs, rfl, hab, hB, cB, hn, q⟩ | ⟨b', dy, gs, rfl, hB, hn, q⟩
  · cases ry
    exact PySem.W.cmp_ofNotEq (rc_two (.inr ⟨rfl, rfl, rfl⟩) hu I.kIn J (PySem.W.Looks.of_pure rfl) (nf_of HN.sub_none) oth_non (try_dne oth_non cf I.kIn J hu1 ⟨rfl, rfl⟩) (try_non_ne (.inl ⟨rfl, rfl, .bl true, H, I, rfl, q⟩)))
  · cases ry
    obtain ⟨its, rv, p, hz⟩ := I.tuple (sqT_of ht)
    obtain ⟨o, ho, hc, n, hd⟩ := p
    have hat : a ≠ t := fun z => by
      rw [z, ht] at ha
      cases ha
    exact PySem.W.cmp_ofNotEq (rc_two (.inr ⟨rfl, rfl, rfl⟩) hu I.kIn J ((PySem.W.Looks.ld ho).andThen (by rw [hc]; exact .now)) (nf_of sub_tup) (oth_ref hat J ho) (try_dne (oth_ref hat J ho) cf I.kIn J hu1 ⟨rfl, rfl⟩) (try_tup_ne ho hc ct I.kIn J (.inl ⟨rfl, rfl, .bl true, H, I, rfl, q⟩)))
  · cases ry
    obtain ⟨oy, ody, Jy⟩ := inst_at I hB
    exact PySem.W.cmp_ofNotEq (rc_two (.inr ⟨rfl, rfl, rfl⟩) hu I.kIn J Jy.type hn (oth_ref hab J Jy.at_) (try_dne (oth_ref hab J Jy.at_) cf I.kIn J hu1 ⟨rfl, rfl⟩) (try_dne (oth_ref (Ne.symm hab) Jy J.at_) cB I.kIn Jy hu1 (.inl ⟨rfl, rfl, .bl true, H, I, rfl, q⟩)))
  · cases ry
    obtain ⟨oy, ody, Jy⟩ := inst_at I hB
    have hab : a ≠ b' := fun z => by
      subst z
      rw [ha] at hB
      cases hB
      have e := O.eq.symm.trans cf.eq
      cases e
    refine PySem.W.cmp_ofNotEq (rc_two (.inr ⟨rfl, rfl, rfl⟩) hu I.kIn J Jy.type hn (oth_ref hab J Jy.at_) (try_dne (oth_ref hab J Jy.at_) cf I.kIn J hu1 ⟨rfl, rfl⟩) (try_one O I.kIn Jy hu1 (thn (run_in F b (hr.mono hk).in1 I I.env0.in1 (.cons (rel_ref b') (.cons (rel_ref a) .nil)) q) fun u s1 ⟨v, H1, I1, rv, ev, q1⟩ => ?_)))
    subst ev
    cases rv
    exact ⟨false, rfl, .inr ⟨_, rfl, .bl true, H1, I1, rfl, q1⟩⟩
end
section
variable {X : Cx} {K : Fg} {C D : Addr} {sp : Sp} {k j : Nat}
theorem op_eqOk (c : Opq X.prog X.w X.K X.mg X.base k C sp) (hr : Room j X.A) (hk : k + 1 ≤ j) (h : X.K = K := by rfl) : OpR X (compareOp .Eq) (rEqO K C sp false) := by
  subst h
  exact op_eqO c hr hk
theorem op_neOk (c : Opq X.prog X.w X.K X.mg X.base k C sp) (hr : Room j X.A) (hk : k + 1 ≤ j) (h : X.K = K := by rfl) : OpR X (compareOp .NotEq) (rEqO K C sp true) := by
  subst h
  exact op_neO c hr hk
theorem op_eqFk (c : Opq X.prog X.w X.K X.mg X.base k D sp) (hr : Room j X.A) (hk : k + 1 ≤ j) (h : X.K = K := by rfl) : OpR X (compareOp .Eq) (rEqF K D sp false) := by
  subst h
  exact op_eqF c hr hk
theorem op_neFk (c : Opq X.prog X.w X.K X.mg X.base k D sp) (hr : Room j X.A) (hk : k + 1 ≤ j) (h : X.K = K := by rfl) : OpR X (compareOp .NotEq) (rEqF K D sp true) := by
  subst h
  exact op_neF c hr hk
end
end RV

/-! RvO: repr, with no guard standing. -/
namespace RV
open PySem PySem.Spec PyProof.Rows L2 Evl
/-- repr of a list or tuple that is known -/
def rRepr (K : Fg) : List V → Hp → VK → Prop := fun xs H Q => ∃ a d, xs = [.ref a] ∧ Dp K H (.ref a) d ∧ d.showable = true ∧ d.hasDict = false ∧ d.depth ≤ 60 ∧ d.shown.length ≤ sizeLine ∧ Q (.str d.shown) H
theorem call_repr {X : Cx} (hg : X.A.guards = some []) (hu : X.A.units + 64 < cLine) : CallR X (.builtin "repr") (rRepr X.K) := by
  intro pins s σ H xs us Q I r h
  obtain ⟨a, d, rfl, hd, hs, hk, hdp, hz, q⟩ := h
  obtain ⟨u, rfl, ru⟩ := vals1 r
  cases ru
  obtain ⟨as, rd⟩ := Dp.reads I d (.ref a) (.ref a) hd rfl
  exact repr_of_reads' rd hs (PyData.noDict_hsm hk) hg (by omega) (fun b o e => e) (fun h' u tk hk' => ⟨.str d.shown, H, I.kept (t' := tk) hk', ⟨_, rfl⟩, q⟩) hz
theorem call_reprk {X : Cx} {K : Fg} (hg : X.A.guards = some []) (hu : X.A.units + 64 < cLine) (e : X.K = K := by rfl) : CallR X (.builtin "repr") (rRepr K) := by
  subst e
  exact call_repr hg hu
/-! ### what is told, as data -/
mutual
theorem dp_ex {K : Fg} {H H' : Hp} (e : Ex H H') : ∀ {v : V} {d : PyData}, Dp K H v d → Dp K H' v d
  | _, _, .non => .non
  | _, _, .bl b => .bl b
  | _, _, .int i => .int i
  | _, _, .str x => .str x
  | _, _, .lst h t => .lst (ex_l e h) (dpAll_ex e t)
  | _, _, .tup h t => .tup (ex_t e h) (dpAll_ex e t)
theorem dpAll_ex {K : Fg} {H H' : Hp} (e : Ex H H') : ∀ {vs : List V} {ds : List PyData}, DpAll K H vs ds → DpAll K H' vs ds
  | _, _, .nil => .nil
  | _, _, .cons h t => .cons (dp_ex e h) (dpAll_ex e t)
end
theorem dpAll_len {K : Fg} {H : Hp} : ∀ {vs : List V} {ds : List PyData}, DpAll K H vs ds → vs.length = ds.length
  | _, _, .nil => rfl
  | _, _, .cons _ t => by rw [List.length_cons, List.length_cons, dpAll_len t]
def rdD : Option Int → PyData
  | none => .none
  | some i => .int i
theorem tl_len_num (i : Int) (h : i.natAbs < 10 ^ 40) : (PyData.shown (.int i)).length ≤ 41 := by
  cases i with
  | ofNat n =>
    have e : TL.tl (PyData.shown (.int (Int.ofNat n))) = TL.numL n := TL.tl_num n
    rw [TL.len_tl, e]
    have := TL.numL_len (n := n) (k := 40) (by decide) h
    omega
  | negSucc n =>
    have e : TL.tl (PyData.shown (.int (Int.negSucc n))) = 45 :: TL.numL (n + 1) := by
      have e1 : PyData.shown (.int (Int.negSucc n)) = Str.ofString ("-" ++ toString ((n + 1 : Nat) : Int)) := rfl
      have e2 := TL.tl_num (n + 1)
      rw [TL.tl_ofString] at e2
      rw [e1, TL.tl_ofString, String.toList_append, List.map_append, e2]
      rfl
    rw [TL.len_tl, e, List.length_cons]
    have := TL.numL_len (n := n + 1) (k := 40) (by decide) h
    omega

section
variable {K : Fg} {σ : L2.St} {H H' : Hp} {ta tb te : TE} {tr : TA} {v : V} {d e : PyData} {ds : List PyData}
/-- a reading whose value is this data -/
def EvX (K : Fg) (te : TE) (σ : L2.St) (H : Hp) (d : PyData) : Prop := EvP te σ H fun v H2 => Dp K H2 v d
def EvXs (K : Fg) (tr : TA) (σ : L2.St) (H : Hp) (ds : List PyData) : Prop := EvAP tr σ H fun vs H2 => DpAll K H2 vs ds
theorem exs_nil : EvXs K tNil σ H [] := fun H1 e Q q => q [] H1 (Ex.refl H1) .nil
theorem exs_cons (h : EvX K ta σ H d) (hr : EvXs K tr σ H ds) : EvXs K (tCons ta tr) σ H (d :: ds) := fun H1 e Q q =>
  h H1 e _ fun v H2 e2 p => hr H2 (e.trans e2) _ fun vs H3 e3 p' => q _ H3 (e2.trans e3) (.cons (dp_ex e3 p) p')
theorem ex_ev (h : Ev te σ H v) (hd : Dp K H v d) : EvX K te σ H d := fun H1 e Q q => h H1 e Q fun H2 e2 => q v H2 e2 (dp_ex (e.trans e2) hd)
theorem ex_lst (h : EvXs K tr σ H ds) (hl : ds.length ≤ 100000) : EvX K (tLst tr) σ H (.list ds) := fun H1 e Q q =>
  h H1 e _ fun vs H2 e2 p => ⟨by
    rw [dpAll_len p]
    exact sz_of hl, fun l nl => q _ _ (e2.trans (same_new nl)) (.lst (sqL_of upd_same) (dpAll_ex (same_new nl) p))⟩
theorem ex_lN {xs : List V} (h : EvL te σ H xs) (hd : DpAll K H xs ds) : EvX K te σ H (.list ds) := fun H1 e Q q => h H1 e Q fun p H2 n e2 h2 => q _ H2 e2 (.lst (sqL_of h2) (dpAll_ex (e.trans e2) hd))
theorem ex_tN {xs : List V} (h : EvU te σ H xs) (hd : DpAll K H xs ds) : EvX K te σ H (.tuple ds) := fun H1 e Q q => h H1 e Q fun p H2 n e2 h2 => q _ H2 e2 (.tup (sqT_of h2) (dpAll_ex (e.trans e2) hd))
theorem dpAll_map {α : Type} {f : α → V} {g : α → PyData} (h : ∀ a, Dp K H (f a) (g a)) : ∀ l : List α, DpAll K H (l.map f) (l.map g)
  | [] => .nil
  | a :: l => .cons (h a) (dpAll_map h l)
end
/-! ### flat data -/
structure LeafOk (d : PyData) : Prop where
  sh : d.showable = true
  hd : d.hasDict = false
  dp : d.depth = 0
  ls : d.leavesShort 41 = true
  bk : d.bulk = 0
  cl : d.canLay0 = true
theorem leaf_bool (b : Bool) : LeafOk (.bool b) := ⟨rfl, rfl, rfl, rfl, rfl, rfl⟩
theorem leaf_int {i : Int} (h : i.natAbs < 10 ^ 40) : LeafOk (.int i) := by
  refine ⟨?_, rfl, rfl, ?_, rfl, rfl⟩
  · have h1 : i.natAbs < 2 ^ 1920 := Nat.lt_of_lt_of_le h (by decide)
    show decide (i.natAbs.log2 < 1920) = true
    by_cases h0 : i.natAbs = 0
    · rw [h0]
      decide
    · exact decide_eq_true ((Nat.log2_lt h0).mpr h1)
  · show decide ((PyData.shown (.int i)).length ≤ 41) = true
    exact decide_eq_true (tl_len_num i h)
theorem leaf_non : LeafOk .none := ⟨rfl, rfl, rfl, rfl, rfl, rfl⟩
structure FlatOk (ds : List PyData) : Prop where
  sh : PyData.showableAll ds = true
  hd : PyData.hasDictAll ds = false
  dp : PyData.depthAll ds = 0
  ls : PyData.leavesShortAll 41 ds = true
  bk : PyData.bulkAll ds = ds.length
  cl : PyData.canLayAll0 ds = true
theorem flat_ok : ∀ {ds : List PyData}, (∀ d ∈ ds, LeafOk d) → FlatOk ds
  | [], _ => ⟨rfl, rfl, rfl, rfl, rfl, rfl⟩
  | d :: ds, h => by
    have h1 := h d (List.mem_cons_self ..)
    have h2 := flat_ok fun x hx => h x (List.mem_cons_of_mem _ hx)
    refine ⟨?_, ?_, ?_, ?_, ?_, ?_⟩
    · show (d.showable && PyData.showableAll ds) = true
      rw [h1.sh, h2.sh]
      rfl
    · show (d.hasDict || PyData.hasDictAll ds) = false
      rw [h1.hd, h2.hd]
      rfl
    · show max d.depth (PyData.depthAll ds) = 0
      rw [h1.dp, h2.dp]
      rfl
    · show (PyData.leavesShort 41 d && PyData.leavesShortAll 41 ds) = true
      rw [h1.ls, h2.ls]
      rfl
    · show d.bulk + 1 + PyData.bulkAll ds = _
      rw [h1.bk, h2.bk, List.length_cons]
      omega
    · show (d.canLay0 && PyData.canLayAll0 ds) = true
      rw [h1.cl, h2.cl]
      rfl
theorem eqv_bools : ∀ bs : List Bool, PyData.eqvAll (bs.map PyData.bool) (bs.map PyData.bool) = true
  | [] => rfl
  | b :: bs => by
    show (PyData.eqv (.bool b) (.bool b) && PyData.eqvAll _ _) = true
    rw [eqv_bools bs]
    cases b <;> rfl
theorem shaped_flat {ds : List PyData} (h : FlatOk ds) : SeqAt.shaped (.list ds) = true := by
  unfold SeqAt.shaped
  have h1 : PyData.canLay0 (.list ds) = true := h.cl
  have h2 : PyData.depth (.list ds) = 1 := by
    show PyData.depthAll ds + 1 = 1
    rw [h.dp]
  rw [h1, h2]
  rfl
section
variable {K : Fg} {σ : L2.St} {H H' : Hp} {ta tb te : TE} {tr : TA} {v : V} {d e : PyData} {ds : List PyData}
theorem ev_repr {a : Addr} (h : Ev te σ H (.ref a)) (hd : Dp K H (.ref a) d) (h1 : d.showable = true) (h2 : d.hasDict = false) (h3 : d.depth ≤ 60) (h4 : d.shown.length ≤ sizeLine) : Ev (tCB (rRepr K) (tCons te tNil)) σ H (.str d.shown) := fun H1 e Q q =>
  h H1 e _ fun H2 e2 => ⟨a, d, rfl, dp_ex (e.trans e2) hd, h1, h2, h3, h4, q H2 e2⟩
theorem rv_eqL {p q : Addr} {xs ys : List V} {bs cs : List Bool} (h1 : H p = some (.lst xs)) (h2 : H q = some (.lst ys)) (e1 : xs = bs.map V.bl) (e2 : ys = cs.map V.bl) : RV (rEqD K) (.ref p) (.ref q) H (.bl (PyData.eqvAll (bs.map .bool) (cs.map .bool))) := fun H1 e _ k => by
  subst e1 e2
  exact ⟨.list (bs.map .bool), .list (cs.map .bool), .lst (sqL_of (e _ _ h1)) (dpAll_map (fun b => .bl b) bs), .lst (sqL_of (e _ _ h2)) (dpAll_map (fun b => .bl b) cs), shaped_flat (flat_ok fun d hd => by
    obtain ⟨b, _, rfl⟩ := List.mem_map.mp hd
    exact leaf_bool b), shaped_flat (flat_ok fun d hd => by
    obtain ⟨b, _, rfl⟩ := List.mem_map.mp hd
    exact leaf_bool b), k H1 (Ex.refl _)⟩
theorem rv_neL {p q : Addr} {xs ys : List V} {bs cs : List Bool} (h1 : H p = some (.lst xs)) (h2 : H q = some (.lst ys)) (e1 : xs = bs.map V.bl) (e2 : ys = cs.map V.bl) : RV (rNeD K) (.ref p) (.ref q) H (.bl (!PyData.eqvAll (bs.map .bool) (cs.map .bool))) := fun H1 e _ k => by
  subst e1 e2
  exact ⟨.list (bs.map .bool), .list (cs.map .bool), .lst (sqL_of (e _ _ h1)) (dpAll_map (fun b => .bl b) bs), .lst (sqL_of (e _ _ h2)) (dpAll_map (fun b => .bl b) cs), shaped_flat (flat_ok fun d hd => by
    obtain ⟨b, _, rfl⟩ := List.mem_map.mp hd
    exact leaf_bool b), shaped_flat (flat_ok fun d hd => by
    obtain ⟨b, _, rfl⟩ := List.mem_map.mp hd
    exact leaf_bool b), k H1 (Ex.refl _)⟩
/-- [..] * n -/
theorem el_rep {xs : List V} {n : Nat} (h : EvL ta σ H xs) (h2 : Ev tb σ H (.int (n : Nat))) (hz : xs.length * n ≤ 100000) (hn : n ≤ 100000) : EvL (tOp rRep ta tb) σ H (List.replicate n xs).flatten := fun H1 e Q q =>
  h H1 e _ fun l H2 nl e2 hl => (h2.mono (e.trans e2)) H2 (Ex.refl _) _ fun H3 e3 => ⟨l, (n : Nat), xs, rfl, rfl, e3 _ _ hl, by omega, by omega, by
    rw [Int.toNat_natCast]
    exact sz2 hz, fun p np => by
    rw [Int.toNat_natCast]
    exact q p _ (fresh_back (e2.trans e3) np) ((e2.trans e3).trans (same_new np)) upd_same⟩
end
end RV

/-! RvP: promises of defs that are entered where no guard of repr stands; the end of a law by such a promise. -/
namespace RV
open PySem PySem.Spec PyProof.Rows L2 Evl

/-- as FnOk, but only where no guard stands -/
structure FnG (P : Program) (w : World) (K : Fg) (mg : Str → Option Value) (base : Heap) (CX : CXT) (k : Nat) (f : Addr) (fd : FuncData) (ps : List Str) (sp : Sp) : Prop where
  len : ∀ vs H Q E, sp vs H Q E → vs.length = ps.length
  go : ∀ (B : Around) (out : List Env) (st : Shared) (H : Hp) (ar : Args) (us : List Value) (vs : List V) (Q : VK) (E : XK), B.guards = some [] → Room k B → Env0 P w K mg base B out st H → BindsTo st fd ar (ps.zip us) → Vals vs us → sp vs H Q E →
    codeAny (model P w) B (.call (.ref f) ar) (CR CX out P w H st Q E) st
section
variable {P : Program} {w : World} {K : Fg} {mg : Str → Option Value} {base : Heap} {CX : CXT}
theorem FnG.mono {j k : Nat} {f : Addr} {fd : FuncData} {ps : List Str} {sp : Sp} (F : FnG P w K mg base CX j f fd ps sp) (h : j ≤ k) : FnG P w K mg base CX k f fd ps sp :=
  ⟨F.len, fun B out st H ar us vs Q E g r => F.go B out st H ar us vs Q E g (r.mono h)⟩
/-- a def's body, entered where no guard stands -/
theorem FunD.okG {x qual : Str} {params : Arguments} {body : List Stmt} {scope : Scope} {dvs : List V} {kws : List (Str × V)} {f : Addr} {fd : FuncData} {N ps : List Str} {k : Nat} {sp : Sp} (F : FunD K x qual params body scope dvs kws f fd) (S : FnScope N ps scope)
    (len : ∀ vs H Q E, sp vs H Q E → vs.length = ps.length)
    (walk : ∀ (cdv : Value) (B : Around) (out : List Env) (st : Shared) (H : Hp) (vs : List V) (Q : VK) (E : XK), (B.deeper (envOfC qual scope st.heap.objs.size f cdv)).guards = some [] → Room k (B.deeper (envOfC qual scope st.heap.objs.size f cdv)) → sp vs H Q E →
      ∃ t, PSs (cxOf CX P w K mg base N qual scope f cdv B out st H E) body t ∧ t { nx := fun _ H' => Q .non H', rt := Q } (start N vs) H) : FnG P w K mg base CX (k + 1) f fd ps sp := by
  obtain ⟨oc, od, dV, kV, doc, pm, an, cdv, ct, osl, rfl, at_f, code, _, _⟩ := F.ex
  refine ⟨len, fun B out st H ar us vs Q E g room e0 bt rl hsp => ?_⟩
  have nvs := len _ _ _ _ hsp
  have inK : K.In st.heap := e0.mod.kin.keeps fun b o e => (e0.bs b o e).1
  have nolim : st.heap.NoLimit := e0.mod.nolimit.keeps fun b o e => (e0.bs b o e).1
  have kinds : ∀ y ∈ ps.zip us, scope.names.lookup y.1 = some .local ∨ (scope.names.lookup y.1 = some .cell ∧ ((cellsFrom (st.heap.objs.size + 1) scope.names []).lookup y.1).isSome = true) := by
    rintro ⟨n, v⟩ hy
    cases S.par n (List.of_mem_zip hy).1 with
    | inl q => exact .inl q
    | inr q => exact .inr ⟨q, PySem.W.cellsFrom_some _ _ _ (.inl q)⟩
  refine codeAny_call_function room.depth (inK _ _ at_f) rfl S.co S.gen rfl (PySem.W.codeRec_of inK code) (bt _ _ _ _ (wpAny_newFunctionEnv_cells S.kind kinds fun en he s2 y => ?_))
  subst he
  obtain ⟨t, judged, read⟩ := walk cdv B out st H vs Q E g (room.deeper _) hsp
  have J : Inv (cxOf CX P w K mg base N qual scope f cdv B out st H E) [] (start N vs) H s2 := inv_start S room.hd e0 nvs rl y
  refine ⟨nolim.keeps y.toInCall.keep, codeAny_func (wpAny_mono (judged.run [] s2 (start N vs) H _ J read) (fun fl s3 hs => ?_) fun e s3 hs => hs)⟩
  cases fl with
  | ret u =>
    obtain ⟨v, σ3, H3, J3, rv, q⟩ := hs
    exact ⟨v, H3, J3.os, J3.bare, J3.base, J3.hok, rv, q⟩
  | next =>
    obtain ⟨σ3, H3, J3, q⟩ := hs
    exact ⟨V.non, H3, J3.os, J3.bare, J3.base, J3.hok, rfl, q⟩
  | brk =>
    obtain ⟨_, _, _, q⟩ := hs
    cases q
  | cont =>
    obtain ⟨_, _, _, q⟩ := hs
    cases q
/-- .. as one may call it -/
structure CalG (P : Program) (w : World) (K : Fg) (mg : Str → Option Value) (base : Heap) (k : Nat) (f : Addr) (sp : Sp) : Prop where
  ex : ∃ (fd : FuncData) (ps : List Str), FnG P w K mg base (L2.CX P w) k f fd ps sp ∧ PySem.W.keepIn K (.ref f) = true ∧ Binds K fd ps []
theorem calG_nox {x qual : Str} {params : Arguments} {body : List Stmt} {scope : Scope} {f : Addr} {fd : FuncData} {N ps : List Str} {k : Nat} {sp : Sp} (F : FunD K x qual params body scope [] [] f fd) (S : FnScope N ps scope)
    (len : ∀ vs H Q E, sp vs H Q E → vs.length = ps.length)
    (hb : ∀ (kV doc pm : Value) (an : Option Addr) (cdv ct : Value) (us : List Value), us.length = ps.length → bindArgs (PySem.W.fnOf x qual params body scope .none kV doc pm an cdv ct) ⟨us, []⟩ = pure (ps.zip us))
    (walk : ∀ (cdv : Value) (B : Around) (out : List Env) (st : Shared) (H : Hp) (vs : List V) (Q : VK) (E : XK), (B.deeper (envOfC qual scope st.heap.objs.size f cdv)).guards = some [] → Room k (B.deeper (envOfC qual scope st.heap.objs.size f cdv)) → sp vs H Q E →
      ∃ t, PSs (cxOf (L2.CX P w) P w K mg base N qual scope f cdv B out st H E).nox body t ∧ t { nx := fun _ H' => Q .non H', rt := Q } (start N vs) H) : CalG P w K mg base (k + 1) f sp :=
  ⟨fd, ps, FunD.okG F S len fun cdv B out st H vs Q E g hr h => by
    obtain ⟨t, h1, h2⟩ := walk cdv B out st H vs Q E g hr h
    exact ⟨t, h1.nox, h2⟩, F.kp, F.bindsN hb⟩
end
section
variable {X : Cx} {k j : Nat} {x : Str} {f : Addr} {sp : Sp} {p pos : Pos} {e : Expr} {es : List Expr} {t : TA}
theorem pe_calG (c : CalG X.prog X.w X.K X.mg X.base k f sp) (g : X.A.guards = some []) (hr : Room j X.A) (hk : k ≤ j) (hg : Gl X x) (hm : X.mg x = some (.ref f)) (ha : PA X (e :: es) t)
    (hdb : (x == ("__debug__" : Str)) = false := by decide) (he : starEach (e :: es) X.env = (false, eval e X.env) :: starEach es X.env := by rfl) (hpl : (backTo pos (starEach es X.env)).any (·.1) = false := by rfl) :
    PE X (.Call (.Name x p) (e :: es) [] pos) (tCall sp [] E0 t) := by
  obtain ⟨fd, ps, F, kp, b⟩ := c.ex
  refine ⟨fun pins st σ H Q I h => wpAny_Call_Name_kw (ld_glob I hg hm ?_ hdb)⟩
  refine PySem.W.callWith_K (h₀ := X.base) I.ok.mod.kin kp (thn (ha.run pos pins st σ H _ I h) fun us s2 ⟨vs, H2, J, rl, q⟩ => ⟨J.kIn, ?_⟩) he hpl
  have q : sp vs H2 Q E0 := by
    have q0 : sp (vs ++ []) H2 Q E0 := q
    rw [List.append_nil] at q0
    exact q0
  have nus : (us ++ []).length = ps.length := by
    rw [List.append_nil, ← rl.length]
    exact F.len _ _ _ _ q
  have bt := b s2 us J.kIn nus
  rw [List.append_nil] at bt
  show wpAny (model X.prog X.w) X.A (call (.ref f) us) (EP X pins σ Q) X.xe s2
  refine wpAny_call (codeAny_mono (F.go X.A X.stack s2 H2 ⟨us, []⟩ us vs Q E0 g (hr.mono hk) J.env0 bt rl q) fun r s3 hq => ?_)
  match r, hq with
  | .error er, hq => exact passL (X := X) pins σ H2 s2 er s3 J hq
  | .ok (.ret u), hq => exact J.after hq
end

/-! ### the end of a law whose def is entered where no guard stands -/
/-- the script alone may be tracked -/
theorem ends_at {P : Program} {w : World} {K : Fg} {mg mb : Str → Option Value} {CX : CXT} {k : Nat} {fa a : Addr} {fd : FuncData} {x : Str} {sp : Sp} {st : Shared} {us : List Value} {H : Hp}
    (inK : K.In st.heap) (nG : st.heap.Ns mainGlobals mg) (nB : st.heap.Ns builtinsNs mb) (bb : ∀ x : Str, x ≠ "__name__" → mb x = bootBuiltins x) (nl : st.heap.NoLimit) (gens : st.gens = #[])
    (obj : st.heap.get? a = some { cls := .type "list", data := .seq us.toArray }) (room : Room k callerA)
    (F : ∀ base : Heap, K.In base → base.Ns mainGlobals mg → FnG P w K mg base CX k fa fd [x] sp) (bt : ∀ (s : Shared) (u : Value), BindsTo s fd ⟨[u], []⟩ [(x, u)])
    (read : sp [.ref a] H (fun v _ => v = .bl true) fun _ _ _ => False) (calm : ∀ e s', CX [] H st (fun _ _ _ => False) e s' → False)
    (only : Only H) (ok : HOk P w H st.heap) (just : ∀ b, H b ≠ none → b = a) (apart : H a ≠ none → K.lookup a = none) :
    codeAny (model P w) callerA (.call (.ref fa) ⟨[.ref a], []⟩) (fun r s' => r = .ok (.ret (.bool true)) ∧ OldK st.heap s'.heap ∧ s'.os = st.os ∧ AllBare s'.gens) st := by
  have off : ∀ {b : Addr}, b ≠ a → H b = none := fun {b} n => by
    cases q : H b with
    | none => rfl
    | some u => exact absurd (just b (by rw [q]; exact Option.some_ne_none u)) n
  have names : ∀ {b : Addr} {m : Str → Option Value}, st.heap.Ns b m → (hidT st.heap H).Ns b m := fun {b m} ⟨o, es, ep, e, d, r⟩ => by
    have nb : b ≠ a := fun z => by
      rw [z, obj] at e
      cases e
      cases (show Data.seq us.toArray _ = Data.dict es ep from d)
    exact ⟨o, es, ep, hidT_get e (off nb), d, r⟩
  have inB : K.In (hidT st.heap H) := fun b o e => hidT_get (inK b o e) (by
    by_cases nb : b = a
    · subst nb
      cases q : H b with
      | none => rfl
      | some u =>
        rw [apart (by rw [q]; exact Option.some_ne_none u)] at e
        cases e
    · exact off nb)
  obtain ⟨mc, l1, l2⟩ := nl
  have e0 : Env0 P w K mg (hidT st.heap H) callerA [] st H :=
    ⟨rfl, ⟨inB, names nG, ⟨mb, names nB, bb⟩, mc, names l1, l2⟩, fun b o e => of_hidT e, Nat.le_of_eq (hidT_size _ _), trivial, fun b hb => absurd (show b ∈ ([] : List Addr) from hb) List.not_mem_nil, ok, .of_eq gens⟩
  refine codeAny_mono ((F _ inB (names nG)).go callerA [] st H ⟨[.ref a], []⟩ [.ref a] [.ref a] _ _ rfl room e0 (bt st (.ref a)) (.cons rfl .nil) read) fun r s' h => ?_
  match r, h with
  | .error e, h => exact (calm e s' h).elim
  | .ok (.ret u), ⟨v, H', os, bare, un, ok', rv, q⟩ =>
    obtain rfl : v = .bl true := q
    obtain rfl : u = Value.bool true := rv
    refine ⟨rfl, OldK.of_keep fun b o e => ?_, os, bare⟩
    cases only b with
    | inl n => exact un.keep b o e n (fun z => absurd (show b ∈ ([] : List Addr) from z) List.not_mem_nil) List.not_mem_nil
    | inr fr =>
      obtain ⟨ob, xs, z⟩ := fr
      obtain ⟨e1, _⟩ := ok b _ z
      obtain ⟨e2, _⟩ := ok' b _ (un.frzs b ob _ z)
      rw [← Option.some.inj (e1.symm.trans e)]
      exact e2
theorem law_callG {P : Program} {w : World} {K : Fg} {mg mb : Str → Option Value} {CX : CXT} {k : Nat} {fa a : Addr} {fd : FuncData} {x : Str} {sp : Sp} {st : Shared} {us : List Value} {ns : List Int}
    (inK : K.In st.heap) (nG : st.heap.Ns mainGlobals mg) (nB : st.heap.Ns builtinsNs mb) (bb : ∀ x : Str, x ≠ "__name__" → mb x = bootBuiltins x) (nl : st.heap.NoLimit) (gens : st.gens = #[])
    (obj : st.heap.get? a = some { cls := .type "list", data := .seq us.toArray }) (hi : IntsAre us ns) (hl : ns.length ≤ sizeLine) (room : Room k callerA)
    (F : ∀ base : Heap, K.In base → base.Ns mainGlobals mg → FnG P w K mg base CX k fa fd [x] sp) (bt : ∀ (s : Shared) (u : Value), BindsTo s fd ⟨[u], []⟩ [(x, u)])
    (read : ∀ H : Hp, Only H → SqL K H a (ns.map V.int) → sp [.ref a] H (fun v _ => v = .bl true) fun _ _ _ => False) (calm : ∀ H e s', CX [] H st (fun _ _ _ => False) e s' → False) :
    codeAny (model P w) callerA (.call (.ref fa) ⟨[.ref a], []⟩) (fun r s' => r = .ok (.ret (.bool true)) ∧ OldK st.heap s'.heap ∧ s'.os = st.os ∧ AllBare s'.gens) st := by
  have rl := vals_ints hi
  by_cases hk : K.lookup a = none
  · let H : Hp := fun b => if b = a then some (.frz { cls := .type "list", data := .seq us.toArray } (.lst (ns.map V.int))) else none
    have yes : H a = some (.frz { cls := .type "list", data := .seq us.toArray } (.lst (ns.map V.int))) := if_pos rfl
    have no : ∀ {b}, b ≠ a → H b = none := fun {b} n => if_neg n
    have only : Only H := fun b => by
      by_cases nb : b = a
      · subst nb
        exact .inr ⟨_, _, yes⟩
      · exact .inl (no nb)
    refine ends_at (H := H) inK nG nB bb nl gens obj room F bt (read H only (.inl (.inr ⟨_, yes⟩))) (calm H) only (fun b u z => ?_) (fun b z => ?_) fun _ => hk
    · by_cases nb : b = a
      · subst nb
        cases yes.symm.trans z
        exact ⟨obj, by rw [List.length_map]; exact hl, us, _, rl, obj⟩
      · cases (no nb).symm.trans z
    · by_cases nb : b = a
      · exact nb
      · exact absurd (no nb) z
  · obtain ⟨o, ho⟩ := Option.ne_none_iff_exists'.mp hk
    have eo : o = { cls := .type "list", data := .seq us.toArray } := Option.some.inj ((inK a o ho).symm.trans obj)
    subst eo
    have only : Only fun _ => none := fun _ => .inl rfl
    exact ends_at (H := fun _ => none) inK nG nB bb nl gens obj room F bt (read _ only (.inr ⟨_, us.toArray, _, ho, rfl, rfl, rfl, by rw [List.size_toArray, hi.length]; exact hl, rl⟩)) (calm _) only (fun b u z => nomatch z) (fun b z => absurd rfl z) fun z => absurd rfl z
/-- a law, by such a promise of its def -/
theorem walk_G {l : PySem.W.OpenLaw} {n k : Nat} {q : Program} {loose : List Str} {XP : (Str → Option Value) → Heap → Prop} {YP : World → Heap → Prop} {d : DefRec} {CX : World → CXT} {x : Str}
    (most : l.most = some n) (small : n ≤ sizeLine) (plain : d.params.defaults = []) (room : Room k callerA)
    (F : ∀ (w : World) (mg : Str → Option Value) (fa : Addr) (h : Heap), YP w h → h.Ns mainGlobals mg → mg d.name = some (.ref fa) →
      ∃ (K : Fg) (fd : FuncData) (sp : Sp), K.In h ∧ (∀ (s : Shared) (u : Value), BindsTo s fd ⟨[u], []⟩ [(x, u)]) ∧
        (∀ (H : Hp) (a : Addr) (ns : List Int), ns.length ≤ n → Only H → SqL K H a (ns.map V.int) → sp [.ref a] H (fun v _ => v = .bl true) fun _ _ _ => False) ∧
        ∀ base : Heap, K.In base → base.Ns mainGlobals mg → FnG l.prog w K mg base (CX w) k fa fd [x] sp)
    (calm : ∀ (w : World) (H : Hp) (s : Shared) (e : Value) (s' : Shared), CX w [] H s (fun _ _ _ => False) e s' → False) : PySem.W.WalkO q loose XP YP l.row.toRowW d [] (fun f vs => PySem.call f vs) :=
  Att.attach_call most plain fun w _ st mg mb fa o pm cd doc a us ns G Y _ _ _ hmg obj script len gens => by
    obtain ⟨K, fd, sp, inK, bt, read, fn⟩ := F w mg fa _ Y G.T.g hmg
    exact law_callG inK G.T.g G.T.b G.T.builtins G.T.nolimit gens obj script (Nat.le_trans len small) room fn bt (fun H o s => read H a ns len o s) fun H e s' => calm w H st e s'
end RV

namespace RV
open PySem PySem.Spec PyProof.Rows L2 Evl
def top (i : Nat) : Stmt := PySem.Challenge.pw_ringvotes_k65_desks_set_one_by_one.main.body.getD i (.Pass ⟨0, 0, 0, 0⟩)
abbrev s_is_integer : Stmt := top 20
def d_is_integer : DX := ⟨.glo "is_integer", "is_integer", "is_integer", defArgs s_is_integer, defBody s_is_integer, defScope s_is_integer, [], []⟩
theorem sc_is_integer : FnScope ["value"] ["value"] (defScope s_is_integer) := ⟨rfl, rfl, rfl, by decide +kernel, rfl, by decide +kernel, by decide +kernel⟩
abbrev s_is_name : Stmt := top 21
def d_is_name : DX := ⟨.glo "is_name", "is_name", "is_name", defArgs s_is_name, defBody s_is_name, defScope s_is_name, [], []⟩
theorem sc_is_name : FnScope ["value", "sign"] ["value"] (defScope s_is_name) := ⟨rfl, rfl, rfl, by decide +kernel, rfl, by decide +kernel, by decide +kernel⟩
abbrev s_check_name : Stmt := top 22
def d_check_name : DX := ⟨.glo "check_name", "check_name", "check_name", defArgs s_check_name, defBody s_check_name, defScope s_check_name, [], []⟩
theorem sc_check_name : FnScope ["value"] ["value"] (defScope s_check_name) := ⟨rfl, rfl, rfl, by decide +kernel, rfl, by decide +kernel, by decide +kernel⟩
abbrev s_Pipe_init : Stmt := inClass (top 24) 0
def d_Pipe_init : DX := ⟨.met "Pipe" "__init__", "__init__", "Pipe.__init__", defArgs s_Pipe_init, defBody s_Pipe_init, defScope s_Pipe_init, [], []⟩
theorem sc_Pipe_init : FnScope ["self", "name", "start", "end"] ["self", "name", "start", "end"] (defScope s_Pipe_init) := ⟨rfl, rfl, rfl, by decide +kernel, rfl, by decide +kernel, by decide +kernel⟩
abbrev s_Meter_init : Stmt := inClass (top 25) 0
def d_Meter_init : DX := ⟨.met "Meter" "__init__", "__init__", "Meter.__init__", defArgs s_Meter_init, defBody s_Meter_init, defScope s_Meter_init, [], [("sealed", .bl false)]⟩
theorem sc_Meter_init : FnScope ["self", "name", "at", "sealed"] ["self", "name", "at", "sealed"] (defScope s_Meter_init) := ⟨rfl, rfl, rfl, by decide +kernel, rfl, by decide +kernel, by decide +kernel⟩
abbrev s_Pipe_name : Stmt := inClass (top 24) 1
def d_Pipe_name : DX := ⟨.prp "Pipe" "name", "name", "Pipe.name", defArgs s_Pipe_name, defBody s_Pipe_name, defScope s_Pipe_name, [], []⟩
theorem sc_Pipe_name : FnScope ["self"] ["self"] (defScope s_Pipe_name) := ⟨rfl, rfl, rfl, by decide +kernel, rfl, by decide +kernel, by decide +kernel⟩
abbrev s_Pipe_start : Stmt := inClass (top 24) 2
def d_Pipe_start : DX := ⟨.prp "Pipe" "start", "start", "Pipe.start", defArgs s_Pipe_start, defBody s_Pipe_start, defScope s_Pipe_start, [], []⟩
theorem sc_Pipe_start : FnScope ["self"] ["self"] (defScope s_Pipe_start) := ⟨rfl, rfl, rfl, by decide +kernel, rfl, by decide +kernel, by decide +kernel⟩
abbrev s_Pipe_end : Stmt := inClass (top 24) 3
def d_Pipe_end : DX := ⟨.prp "Pipe" "end", "end", "Pipe.end", defArgs s_Pipe_end, defBody s_Pipe_end, defScope s_Pipe_end, [], []⟩
theorem sc_Pipe_end : FnScope ["self"] ["self"] (defScope s_Pipe_end) := ⟨rfl, rfl, rfl, by decide +kernel, rfl, by decide +kernel, by decide +kernel⟩
abbrev s_Meter_name : Stmt := inClass (top 25) 1
def d_Meter_name : DX := ⟨.prp "Meter" "name", "name", "Meter.name", defArgs s_Meter_name, defBody s_Meter_name, defScope s_Meter_name, [], []⟩
theorem sc_Meter_name : FnScope ["self"] ["self"] (defScope s_Meter_name) := ⟨rfl, rfl, rfl, by decide +kernel, rfl, by decide +kernel, by decide +kernel⟩
abbrev s_Meter_at : Stmt := inClass (top 25) 2
def d_Meter_at : DX := ⟨.prp "Meter" "at", "at", "Meter.at", defArgs s_Meter_at, defBody s_Meter_at, defScope s_Meter_at, [], []⟩
theorem sc_Meter_at : FnScope ["self"] ["self"] (defScope s_Meter_at) := ⟨rfl, rfl, rfl, by decide +kernel, rfl, by decide +kernel, by decide +kernel⟩
abbrev s_Meter_sealed : Stmt := inClass (top 25) 3
def d_Meter_sealed : DX := ⟨.prp "Meter" "sealed", "sealed", "Meter.sealed", defArgs s_Meter_sealed, defBody s_Meter_sealed, defScope s_Meter_sealed, [], []⟩
theorem sc_Meter_sealed : FnScope ["self"] ["self"] (defScope s_Meter_sealed) := ⟨rfl, rfl, rfl, by decide +kernel, rfl, by decide +kernel, by decide +kernel⟩
abbrev s_check_pipes : Stmt := top 26
def d_check_pipes : DX := ⟨.glo "check_pipes", "check_pipes", "check_pipes", defArgs s_check_pipes, defBody s_check_pipes, defScope s_check_pipes, [], []⟩
theorem sc_check_pipes : FnScope ["pipes", "names", "index", "pipe"] ["pipes"] (defScope s_check_pipes) := ⟨rfl, rfl, rfl, by decide +kernel, rfl, by decide +kernel, by decide +kernel⟩
abbrev s_check_meters : Stmt := top 27
def d_check_meters : DX := ⟨.glo "check_meters", "check_meters", "check_meters", defArgs s_check_meters, defBody s_check_meters, defScope s_check_meters, [], []⟩
theorem sc_check_meters : FnScope ["meters", "pipes", "places", "names", "index", "meter", "pipe"] ["meters", "pipes"] (defScope s_check_meters) := ⟨rfl, rfl, rfl, by decide +kernel, rfl, by decide +kernel, by decide +kernel⟩
abbrev s_line_of : Stmt := top 28
def d_line_of : DX := ⟨.glo "line_of", "line_of", "line_of", defArgs s_line_of, defBody s_line_of, defScope s_line_of, [], []⟩
theorem sc_line_of : FnScope ["item"] ["item"] (defScope s_line_of) := ⟨rfl, rfl, rfl, by decide +kernel, rfl, by decide +kernel, by decide +kernel⟩
abbrev s_item_of : Stmt := top 29
def d_item_of : DX := ⟨.glo "item_of", "item_of", "item_of", defArgs s_item_of, defBody s_item_of, defScope s_item_of, [], []⟩
theorem sc_item_of : FnScope ["line", "words"] ["line"] (defScope s_item_of) := ⟨rfl, rfl, rfl, by decide +kernel, rfl, by decide +kernel, by decide +kernel⟩
abbrev s_Net_init : Stmt := inClass (top 30) 0
def d_Net_init : DX := ⟨.met "Net" "__init__", "__init__", "Net.__init__", defArgs s_Net_init, defBody s_Net_init, defScope s_Net_init, [.adr (He.dflAt ("Net", some "__init__") 0)], []⟩
theorem sc_Net_init : FnScope ["self", "pipes", "meters"] ["self", "pipes", "meters"] (defScope s_Net_init) := ⟨rfl, rfl, rfl, by decide +kernel, rfl, by decide +kernel, by decide +kernel⟩
abbrev s_Net_pipes : Stmt := inClass (top 30) 2
def d_Net_pipes : DX := ⟨.prp "Net" "pipes", "pipes", "Net.pipes", defArgs s_Net_pipes, defBody s_Net_pipes, defScope s_Net_pipes, [], []⟩
theorem sc_Net_pipes : FnScope ["self"] ["self"] (defScope s_Net_pipes) := ⟨rfl, rfl, rfl, by decide +kernel, rfl, by decide +kernel, by decide +kernel⟩
abbrev s_Net_meters : Stmt := inClass (top 30) 3
def d_Net_meters : DX := ⟨.prp "Net" "meters", "meters", "Net.meters", defArgs s_Net_meters, defBody s_Net_meters, defScope s_Net_meters, [], []⟩
theorem sc_Net_meters : FnScope ["self"] ["self"] (defScope s_Net_meters) := ⟨rfl, rfl, rfl, by decide +kernel, rfl, by decide +kernel, by decide +kernel⟩
abbrev s_Net___str__ : Stmt := inClass (top 30) 16
def d_Net___str__ : DX := ⟨.met "Net" "__str__", "__str__", "Net.__str__", defArgs s_Net___str__, defBody s_Net___str__, defScope s_Net___str__, [], []⟩
theorem sc_Net___str__ : FnScope ["self", "item"] ["self"] (defScope s_Net___str__) := ⟨rfl, rfl, rfl, by decide +kernel, rfl, by decide +kernel, by decide +kernel⟩
abbrev s_Net_read : Stmt := inClass (top 30) 1
def d_Net_read : DX := ⟨.clm "Net" "read", "read", "Net.read", defArgs s_Net_read, defBody s_Net_read, defScope s_Net_read, [], []⟩
theorem sc_Net_read : FnScope ["cls", "text", "items", "pipes", "meters", "net", "line", "item"] ["cls", "text"] (defScope s_Net_read) := ⟨rfl, rfl, rfl, by decide +kernel, rfl, by decide +kernel, by decide +kernel⟩
abbrev s_Net___eq__ : Stmt := inClass (top 30) 18
def d_Net___eq__ : DX := ⟨.met "Net" "__eq__", "__eq__", "Net.__eq__", defArgs s_Net___eq__, defBody s_Net___eq__, defScope s_Net___eq__, [], []⟩
theorem sc_Net___eq__ : FnScope ["self", "other"] ["self", "other"] (defScope s_Net___eq__) := ⟨rfl, rfl, rfl, by decide +kernel, rfl, by decide +kernel, by decide +kernel⟩
abbrev s_check_net : Stmt := top 31
def d_check_net : DX := ⟨.glo "check_net", "check_net", "check_net", defArgs s_check_net, defBody s_check_net, defScope s_check_net, [], []⟩
theorem sc_check_net : FnScope ["value"] ["value"] (defScope s_check_net) := ⟨rfl, rfl, rfl, by decide +kernel, rfl, by decide +kernel, by decide +kernel⟩
abbrev s_seat_of : Stmt := top 33
def d_seat_of : DX := ⟨.glo "seat_of", "seat_of", "seat_of", defArgs s_seat_of, defBody s_seat_of, defScope s_seat_of, [], []⟩
theorem sc_seat_of : FnScope ["meters", "name", "index", "meter"] ["meters", "name"] (defScope s_seat_of) := ⟨rfl, rfl, rfl, by decide +kernel, rfl, by decide +kernel, by decide +kernel⟩
abbrev s_check_reading : Stmt := top 34
def d_check_reading : DX := ⟨.glo "check_reading", "check_reading", "check_reading", defArgs s_check_reading, defBody s_check_reading, defScope s_check_reading, [], []⟩
theorem sc_check_reading : FnScope ["meter", "reading"] ["meter", "reading"] (defScope s_check_reading) := ⟨rfl, rfl, rfl, by decide +kernel, rfl, by decide +kernel, by decide +kernel⟩
abbrev s_Desk_init : Stmt := inClass (top 35) 0
def d_Desk_init : DX := ⟨.met "Desk" "__init__", "__init__", "Desk.__init__", defArgs s_Desk_init, defBody s_Desk_init, defScope s_Desk_init, [], []⟩
theorem sc_Desk_init : FnScope ["self", "net", "meter"] ["self", "net"] (defScope s_Desk_init) := ⟨rfl, rfl, rfl, by decide +kernel, rfl, by decide +kernel, by decide +kernel⟩
abbrev s_Desk_net : Stmt := inClass (top 35) 1
def d_Desk_net : DX := ⟨.prp "Desk" "net", "net", "Desk.net", defArgs s_Desk_net, defBody s_Desk_net, defScope s_Desk_net, [], []⟩
theorem sc_Desk_net : FnScope ["self"] ["self"] (defScope s_Desk_net) := ⟨rfl, rfl, rfl, by decide +kernel, rfl, by decide +kernel, by decide +kernel⟩
abbrev s_Desk_readings : Stmt := inClass (top 35) 2
def d_Desk_readings : DX := ⟨.prp "Desk" "readings", "readings", "Desk.readings", defArgs s_Desk_readings, defBody s_Desk_readings, defScope s_Desk_readings, [], []⟩
theorem sc_Desk_readings : FnScope ["self"] ["self"] (defScope s_Desk_readings) := ⟨rfl, rfl, rfl, by decide +kernel, rfl, by decide +kernel, by decide +kernel⟩
abbrev s_Desk_changes : Stmt := inClass (top 35) 3
def d_Desk_changes : DX := ⟨.prp "Desk" "changes", "changes", "Desk.changes", defArgs s_Desk_changes, defBody s_Desk_changes, defScope s_Desk_changes, [], []⟩
theorem sc_Desk_changes : FnScope ["self"] ["self"] (defScope s_Desk_changes) := ⟨rfl, rfl, rfl, by decide +kernel, rfl, by decide +kernel, by decide +kernel⟩
abbrev s_Desk___getitem__ : Stmt := inClass (top 35) 4
def d_Desk___getitem__ : DX := ⟨.met "Desk" "__getitem__", "__getitem__", "Desk.__getitem__", defArgs s_Desk___getitem__, defBody s_Desk___getitem__, defScope s_Desk___getitem__, [], []⟩
theorem sc_Desk___getitem__ : FnScope ["self", "name"] ["self", "name"] (defScope s_Desk___getitem__) := ⟨rfl, rfl, rfl, by decide +kernel, rfl, by decide +kernel, by decide +kernel⟩
abbrev s_Desk___setitem__ : Stmt := inClass (top 35) 5
def d_Desk___setitem__ : DX := ⟨.met "Desk" "__setitem__", "__setitem__", "Desk.__setitem__", defArgs s_Desk___setitem__, defBody s_Desk___setitem__, defScope s_Desk___setitem__, [], []⟩
theorem sc_Desk___setitem__ : FnScope ["self", "name", "reading", "seat"] ["self", "name", "reading"] (defScope s_Desk___setitem__) := ⟨rfl, rfl, rfl, by decide +kernel, rfl, by decide +kernel, by decide +kernel⟩
abbrev s_Desk___contains__ : Stmt := inClass (top 35) 7
def d_Desk___contains__ : DX := ⟨.met "Desk" "__contains__", "__contains__", "Desk.__contains__", defArgs s_Desk___contains__, defBody s_Desk___contains__, defScope s_Desk___contains__, [], []⟩
theorem sc_Desk___contains__ : FnScope ["self", "value", "speaking", "meter", "reading"] ["self", "value"] (defScope s_Desk___contains__) := ⟨rfl, rfl, rfl, by decide +kernel, rfl, by decide +kernel, by decide +kernel⟩
abbrev s_Desk___len__ : Stmt := inClass (top 35) 8
def d_Desk___len__ : DX := ⟨.met "Desk" "__len__", "__len__", "Desk.__len__", defArgs s_Desk___len__, defBody s_Desk___len__, defScope s_Desk___len__, [], []⟩
theorem sc_Desk___len__ : FnScope ["self", "reading"] ["self"] (defScope s_Desk___len__) := ⟨rfl, rfl, rfl, by decide +kernel, rfl, by decide +kernel, by decide +kernel⟩
abbrev s_Desk___bool__ : Stmt := inClass (top 35) 9
def d_Desk___bool__ : DX := ⟨.met "Desk" "__bool__", "__bool__", "Desk.__bool__", defArgs s_Desk___bool__, defBody s_Desk___bool__, defScope s_Desk___bool__, [], []⟩
theorem sc_Desk___bool__ : FnScope ["self"] ["self"] (defScope s_Desk___bool__) := ⟨rfl, rfl, rfl, by decide +kernel, rfl, by decide +kernel, by decide +kernel⟩
abbrev s__law_start : Stmt := top 37
def d__law_start : DX := ⟨.glo "_law_start", "_law_start", "_law_start", defArgs s__law_start, defBody s__law_start, defScope s__law_start, [], []⟩
theorem sc__law_start : FnScope ["_law_script", "_law_place", "_law_found", "_law_cell"] ["_law_script", "_law_place"] (defScope s__law_start) := ⟨rfl, rfl, rfl, by decide +kernel, rfl, by decide +kernel, by decide +kernel⟩
abbrev s__law_pool : Stmt := top 38
def d__law_pool : DX := ⟨.glo "_law_pool", "_law_pool", "_law_pool", defArgs s__law_pool, defBody s__law_pool, defScope s__law_pool, [], []⟩
theorem sc__law_pool : FnScope ["_law_cell", "_law_digits"] ["_law_cell"] (defScope s__law_pool) := ⟨rfl, rfl, rfl, by decide +kernel, rfl, by decide +kernel, by decide +kernel⟩
abbrev s__law_draw : Stmt := top 39
def d__law_draw : DX := ⟨.glo "_law_draw", "_law_draw", "_law_draw", defArgs s__law_draw, defBody s__law_draw, defScope s__law_draw, [], []⟩
theorem sc__law_draw : FnScope ["_law_pool_here", "_law_many", "_law_state", "_law_factor", "_law_digit"] ["_law_pool_here", "_law_many"] (defScope s__law_draw) := ⟨rfl, rfl, rfl, by decide +kernel, rfl, by decide +kernel, by decide +kernel⟩
abbrev s__law_word : Stmt := top 40
def d__law_word : DX := ⟨.glo "_law_word", "_law_word", "_law_word", defArgs s__law_word, defBody s__law_word, defScope s__law_word, [], []⟩
theorem sc__law_word : FnScope ["_law_pool_here", "_law_letters", "_law_found", "_law_place", "_law_signs"] ["_law_pool_here"] (defScope s__law_word) := ⟨rfl, rfl, rfl, by decide +kernel, rfl, by decide +kernel, by decide +kernel⟩
abbrev s__law_words : Stmt := top 41
def d__law_words : DX := ⟨.glo "_law_words", "_law_words", "_law_words", defArgs s__law_words, defBody s__law_words, defScope s__law_words, [], []⟩
theorem sc__law_words : FnScope ["_law_pool_here", "_law_many", "_law_signs", "_law_found", "_law_twins", "_law_stem", "_law_part", "_law_first", "_law_place", "_law_word_here", "_law_free", "_law_sign", "_law_tag"] ["_law_pool_here", "_law_many"] (defScope s__law_words) := ⟨rfl, rfl, rfl, by decide +kernel, rfl, by decide +kernel, by decide +kernel⟩
abbrev s__law_lines : Stmt := top 42
def d__law_lines : DX := ⟨.glo "_law_lines", "_law_lines", "_law_lines", defArgs s__law_lines, defBody s__law_lines, defScope s__law_lines, [], []⟩
theorem sc__law_lines : FnScope ["_law_pool_here", "_law_many", "_law_wide", "_law_tags", "_law_spots", "_law_found", "_law_tag", "_law_begin"] ["_law_pool_here", "_law_many", "_law_wide"] (defScope s__law_lines) := ⟨rfl, rfl, rfl, by decide +kernel, rfl, by decide +kernel, by decide +kernel⟩
abbrev s__law_dials : Stmt := top 43
def d__law_dials : DX := ⟨.glo "_law_dials", "_law_dials", "_law_dials", defArgs s__law_dials, defBody s__law_dials, defScope s__law_dials, [], []⟩
theorem sc__law_dials : FnScope ["_law_pool_here", "_law_lines_here", "_law_many", "_law_rare", "_law_found", "_law_tag"] ["_law_pool_here", "_law_lines_here", "_law_many", "_law_rare"] (defScope s__law_dials) := ⟨rfl, rfl, rfl, by decide +kernel, rfl, by decide +kernel, by decide +kernel⟩
abbrev s__law_text : Stmt := top 44
def d__law_text : DX := ⟨.glo "_law_text", "_law_text", "_law_text", defArgs s__law_text, defBody s__law_text, defScope s__law_text, [], []⟩
theorem sc__law_text : FnScope ["_law_lines_here", "_law_dials_here", "_law_rows_here", "_law_tag", "_law_line", "_law_shut"] ["_law_lines_here", "_law_dials_here"] (defScope s__law_text) := ⟨rfl, rfl, rfl, by decide +kernel, rfl, by decide +kernel, by decide +kernel⟩
abbrev s__law_number : Stmt := top 45
def d__law_number : DX := ⟨.glo "_law_number", "_law_number", "_law_number", defArgs s__law_number, defBody s__law_number, defScope s__law_number, [], []⟩
theorem sc__law_number : FnScope ["_law_pool_here"] ["_law_pool_here"] (defScope s__law_number) := ⟨rfl, rfl, rfl, by decide +kernel, rfl, by decide +kernel, by decide +kernel⟩
abbrev s__law_reading : Stmt := top 46
def d__law_reading : DX := ⟨.glo "_law_reading", "_law_reading", "_law_reading", defArgs s__law_reading, defBody s__law_reading, defScope s__law_reading, [], []⟩
theorem sc__law_reading : FnScope ["_law_pool_here", "_law_shut"] ["_law_pool_here", "_law_shut"] (defScope s__law_reading) := ⟨rfl, rfl, rfl, by decide +kernel, rfl, by decide +kernel, by decide +kernel⟩
abbrev s__law_desk_right : Stmt := top 47
def d__law_desk_right : DX := ⟨.glo "_law_desk_right", "_law_desk_right", "_law_desk_right", defArgs s__law_desk_right, defBody s__law_desk_right, defScope s__law_desk_right, [], []⟩
theorem sc__law_desk_right : FnScope ["_law_desk", "_law_grid", "_law_lines_here", "_law_dials_here", "_law_shown", "_law_many", "_law_tags", "_law_speaking", "_law_told", "_law_due", "_law_dial", "_law_k", "_law_tag", "_law_line", "_law_thing"] ["_law_desk", "_law_grid", "_law_lines_here", "_law_dials_here", "_law_shown", "_law_many"] (defScope s__law_desk_right) := ⟨rfl, rfl, rfl, by decide +kernel, rfl, by decide +kernel, by decide +kernel⟩
abbrev s__law_set : Stmt := top 49
def d__law_set : DX := ⟨.glo "_law_set", "_law_set", "_law_set", defArgs s__law_set, defBody s__law_set, defScope s__law_set, [], []⟩
theorem sc__law_set : FnScope ["_law_desk", "_law_tag", "_law_worth"] ["_law_desk", "_law_tag", "_law_worth"] (defScope s__law_set) := ⟨rfl, rfl, rfl, by decide +kernel, rfl, by decide +kernel, by decide +kernel⟩
abbrev s__law_both_right : Stmt := top 48
def d__law_both_right : DX := ⟨.glo "_law_both_right", "_law_both_right", "_law_both_right", defArgs s__law_both_right, defBody s__law_both_right, defScope s__law_both_right, [], []⟩
theorem sc__law_both_right : FnScope ["_law_both", "_law_grid", "_law_lines_here", "_law_dials_here", "_law_shown", "_law_many", "_law_k"] ["_law_both", "_law_grid", "_law_lines_here", "_law_dials_here", "_law_shown", "_law_many"] (defScope s__law_both_right) := ⟨rfl, rfl, rfl, by decide +kernel, rfl, by decide +kernel, by decide +kernel⟩
abbrev s__law_right : Stmt := top 50
def d__law_right : DX := ⟨.glo "_law_right", "_law_right", "_law_right", defArgs s__law_right, defBody s__law_right, defScope s__law_right, [], []⟩
theorem sc__law_right : FnScope ["_law_pool_here", "_law_lines_here", "_law_dials_here", "_law_grid", "_law_both", "_law_many", "_law_shown", "_law_step", "_law_which", "_law_asked", "_law_at", "_law_worth", "_law_others", "_law_turn", "_law_dial", "_law_thing"] ["_law_pool_here"] (defScope s__law_right) := ⟨rfl, rfl, rfl, by decide +kernel, rfl, by decide +kernel, by decide +kernel⟩
abbrev s_law : Stmt := top 51
def d_law : DX := ⟨.glo "law", "law", "law", defArgs s_law, defBody s_law, defScope s_law, [], []⟩
theorem sc_law : FnScope ["_law_script", "_law_place"] ["_law_script"] (defScope s_law) := ⟨rfl, rfl, rfl, by decide +kernel, rfl, by decide +kernel, by decide +kernel⟩
def fx : List (Fg → Bool) := [
  freeB "int",
  freeB "isinstance",
  freeB "bool",
  freeB "str",
  freeB "len",
  intB "LONGEST_NAME" 8,
  strB "LETTERS" "abcdefghijklmnopqrstuvwxyz",
  strB "DIGITS" "0123456789",
  freeB "all",
  gloB "is_name",
  gloB "check_name",
  clsB "Pipe",
  noatB "Pipe" "kept",
  clsB "Meter",
  noatB "Meter" "kept",
  freeB "tuple",
  freeB "enumerate",
  gloB "Pipe",
  prpB "Pipe" "name",
  intB "MOST_PIPES" 12,
  insB "Pipe",
  kitB "Pipe" "Pipe" true,
  gloB "Meter",
  prpB "Meter" "name",
  prpB "Meter" "at",
  intB "MOST_METERS" 12,
  insB "Meter",
  kitB "Meter" "Meter" true,
  prpB "Pipe" "start",
  prpB "Pipe" "end",
  prpB "Meter" "sealed",
  kitB "Meter" "Pipe" false,
  mkrB "Pipe",
  mkrB "Meter",
  gloB "check_pipes",
  gloB "check_meters",
  clsB "Net",
  noatB "Net" "joined",
  noatB "Net" "fitted",
  gloB "line_of",
  gloB "item_of",
  mkrB "Net",
  gloB "Net",
  opmB "Net" "__str__",
  kitB "Pipe" "Meter" false,
  insB "Net",
  kitB "Net" "Net" true,
  gloB "is_integer",
  gloB "check_net",
  prpB "Net" "meters",
  clsB "Desk",
  noatB "Desk" "board",
  noatB "Desk" "now",
  noatB "Desk" "past",
  gloB "seat_of",
  gloB "check_reading",
  neB "Desk" "Pipe",
  neB "Desk" "Meter",
  neB "Desk" "Net",
  neB "Desk" "Vote",
  neB "Desk" "Comparison",
  neB "Desk" "Rule",
  freeB "zip",
  freeB "abs",
  freeB "divmod",
  gloB "_law_draw",
  freeB "range",
  gloB "_law_word",
  gloB "_law_words",
  gloB "_law_number",
  opmB "Desk" "__contains__",
  opmB "Desk" "__getitem__",
  opmB "Desk" "__len__",
  prpB "Desk" "changes",
  prpB "Desk" "readings",
  freeB "repr",
  prpB "Desk" "net",
  opmB "Net" "__eq__",
  eqoB "Net",
  opmB "Desk" "__bool__",
  kitCB "Net" "str" false,
  insB "Desk",
  kitCB "Desk" "str" false,
  opmB "Desk" "__setitem__",
  noseqB "Desk",
  gloB "_law_desk_right",
  eqfB "Desk",
  subTB "Desk" "tuple",
  subB "Net" "Desk",
  kitB "Desk" "Net" false,
  gloB "_law_lines",
  gloB "_law_dials",
  clmB "Net" "read",
  gloB "_law_text",
  mkrB "Desk",
  gloB "Desk",
  gloB "_law_both_right",
  gloB "_law_reading",
  gloB "_law_set",
  freeB "min",
  freeB "max",
  gloB "_law_right",
  gloB "_law_pool",
  gloB "_law_start",
  gloB "law"]
def fn : List DX := [d_is_integer, d_is_name, d_check_name, d_Pipe_init, d_Meter_init, d_Pipe_name, d_Pipe_start, d_Pipe_end, d_Meter_name, d_Meter_at, d_Meter_sealed, d_check_pipes, d_check_meters, d_line_of, d_item_of, d_Net_init, d_Net_pipes, d_Net_meters, d_Net___str__, d_Net_read, d_Net___eq__, d_check_net, d_seat_of, d_check_reading, d_Desk_init, d_Desk_net, d_Desk_readings, d_Desk_changes, d_Desk___getitem__, d_Desk___setitem__, d_Desk___contains__, d_Desk___len__, d_Desk___bool__, d__law_start, d__law_pool, d__law_draw, d__law_word, d__law_words, d__law_lines, d__law_dials, d__law_text, d__law_number, d__law_reading, d__law_desk_right, d__law_set, d__law_both_right, d__law_right, d_law]
abbrev TX := Tx fx fn
end RV

namespace RV
open PySem PySem.Spec PyProof.Rows L2 Evl


/-- is_integer: by what isinstance answers -/
def spIsInt (K : Fg) : Sp := fun vs H Q _ => ∃ x a b, vs = [x] ∧ IsB K H x "int" a ∧ IsB K H x "bool" b ∧ Q (.bl (a && !b)) H

theorem ok_is_integer {P : Program} {w : World} {K : Fg} {mg : Str → Option Value} {base : Heap} (T : TX K mg) : CalA P w K mg base 1 (At.a K (.glo "is_integer")) (spIsInt K) [] := by
  obtain ⟨fd, F⟩ := (T.says.def_ 0 (d := d_is_integer) rfl)
  refine cal_nox F sc_is_integer (fun vs H Q E h => ?_) (fun _ _ _ _ _ _ us hl => match us, hl with | [_], _ => rfl) (fun cdv A outer s H vs Q E hr h => ?_)
  · obtain ⟨x, a, b, rfl, _⟩ := h
    rfl
  · refine ⟨_, (pss_one (ps_ret (pe_and (pe_callB (id := "isinstance") (call_isBk (K := K)) (by rfl) (T.free 1) (by decide +kernel) (pa_cons (pv 0) (pa_cons (pe_bltn (v := .ty "int") (by rfl) (T.free 0) (by decide +kernel) rfl) pa_nil))) (pe_one (pe_not (pe_callB (id := "isinstance") (call_isBk (K := K)) (by rfl) (T.free 1) (by decide +kernel) (pa_cons (pv 0) (pa_cons (pe_bltn (v := .ty "bool") (by rfl) (T.free 2) (by decide +kernel) rfl) pa_nil)))))))), ?_⟩
    obtain ⟨x, a, b, rfl, h1, h2, k⟩ := h
    refine ⟨_, rfl, _, _, a, rfl, h1, a, rfl, ?_⟩
    cases a with
    | false => exact k
    | true => exact ⟨_, rfl, _, _, b, rfl, h2, b, rfl, k⟩

abbrev LOW : Str := "abcdefghijklmnopqrstuvwxyz"
abbrev DIG : Str := "0123456789"
/-- the names of the text, by code points -/
def isLow (c : Nat) : Bool := decide (c ∈ LOW.cps.toList)
def isDig (c : Nat) : Bool := decide (c ∈ DIG.cps.toList)
def nameL : List Nat → Bool
  | [] => false
  | c :: r => decide (r.length < 8) && (isLow c && (c :: r).all fun c => isLow c || isDig c)
def nameOk (z : Str) : Bool := nameL z.cps.toList
theorem nameOk_nil {z : Str} (h : z.cps.toList = []) : nameOk z = false := by
  unfold nameOk
  rw [h]
  rfl
theorem nameOk_cons {z : Str} {c : Nat} {r : List Nat} (h : z.cps.toList = c :: r) : nameOk z = (decide (r.length < 8) && (isLow c && (c :: r).all fun c => isLow c || isDig c)) := by
  unfold nameOk
  rw [h]
  rfl
def spIsName (K : Fg) : Sp := fun vs H Q _ => ∃ x, vs = [x] ∧ ((∃ z : Str, x = .str z ∧ z.length ≤ 40000 ∧ ∀ H', Ex H H' → Q (.bl (nameOk z)) H') ∨ (IsB K H x "str" false ∧ ∀ H', Ex H H' → Q (.bl false) H'))


theorem strLen (z : Str) : z.length = z.cps.toList.length := by simp [Str.length]
theorem all_map_id {α : Type} (l : List α) (f : α → Bool) : (l.map f).all id = l.all f := by rw [List.all_map]; rfl

theorem ok_is_name {P : Program} {w : World} {K : Fg} {mg : Str → Option Value} {base : Heap} (T : TX K mg) : CalA P w K mg base 1 (At.a K (.glo "is_name")) (spIsName K) [] := by
  obtain ⟨fd, F⟩ := (T.says.def_ 1 (d := d_is_name) rfl)
  refine cal_nox F sc_is_name (fun vs H Q E h => ?_) (fun _ _ _ _ _ _ us hl => match us, hl with | [_], _ => rfl) (fun cdv A outer s H vs Q E hr h => ?_)
  · obtain ⟨x, rfl, _⟩ := h
    rfl
  · refine ⟨_, (pss_cons (ps_if (PW.pt (pw_or (pt_not (pt_val (pe_callB (id := "isinstance") (call_isBk (K := K)) (by rfl) (T.free 1) (by decide +kernel) (pa_cons (pv 0) (pa_cons (pe_bltn (v := .ty "str") (by rfl) (T.free 3) (by decide +kernel) rfl) pa_nil))))) (pw_or (pt_not (pt_chain op_le op_le pe_int (pe_callB (id := "len") call_len_str (by rfl) (T.free 4) (by decide +kernel) (pa_cons (pv 0) pa_nil)) (pe_gv (by rfl) (T.int 5)))) (pw_or1 (pt_cmpR op_notIn_sign (pe_ix ix_str (pv 0) pe_int (fun _ _ => rfl)) (pe_gv (by rfl) (T.str 6)) (by rfl)))))) (pss_one (ps_ret pe_bl)) pss_nil)
      (pss_one (ps_ret (pe_callB (id := "all") (cr_allk (K := K) rfl) (by rfl) (T.free 8) (by decide +kernel) (pa_cons (pe_lc (own := [("sign", 1)]) (by rfl) sc_is_name.nd (pi_str (pv 0)) (blkOk_by (own := [("sign", 1)]) (by kernel_rfl)) (fun _ _ _ _ _ => (pg_name (i := 1) sc_is_name.nd rfl (by first | exact Or.inl rfl | exact Or.inr rfl))) (fun _ _ _ _ _ => pts_nil) (fun _ _ _ _ _ => (pe_or (pe_cmpR op_in_sign (pv 1) (pe_gv (by rfl) (T.str 6)) (by rfl)) (pe_one (pe_cmpR op_in_sign (pv 1) (pe_gv (by rfl) (T.str 7)) (by rfl)))))) pa_nil))))), ?_⟩
    obtain ⟨x, rfl, h⟩ := h
    rcases h with ⟨z, rfl, hz, k⟩ | ⟨hx, k⟩
    · have hlen := strLen z
      cases hl : z.cps.toList with
      | nil =>
        rw [hl] at hlen
        refine q_when (b := true) (et_or (a := false) (b := true) (et_not (a := true) (et_B (ev_cb (ea_cons (ev_var rfl) (ea_cons ev_c ea_nil)) (rc_isB fun _ _ => isB_str)))) fun _ => et_or (a := true) (b := true) (et_is (et_not (et_test (ev_chain ev_c (ev_cb (ea_cons (ev_var rfl) ea_nil) (rc_lenS (by omega))) rv_I0 fun _ => ev_op ev_c ev_c rv_I0))) (by rw [hlen]; rfl)) fun h => by cases h) (fun _ H1 e => s_ret (D := { nx := _, rt := Q }) ev_c fun H2 e2 => ?_) (fun h => by cases h)
        have := k H2 (e.trans e2)
        rw [nameOk_nil hl] at this
        exact this
      | cons c r =>
        rw [hl] at hlen
        have g1 : decide ((1 : Int) ≤ z.length) = true := decide_eq_true (by rw [hlen, List.length_cons]; omega)
        have g2 : decide ((z.length : Int) ≤ 8) = decide (r.length < 8) := by
          rw [hlen, List.length_cons]
          exact decide_eq_decide.mpr (by omega)
        refine q_when (b := !(decide (r.length < 8) && isLow c)) (et_is (et_or (et_not (et_B (ev_cb (ea_cons (ev_var rfl) (ea_cons ev_c ea_nil)) (rc_isB fun _ _ => isB_str)))) fun _ => et_or (et_not (et_test (ev_chain ev_c (ev_cb (ea_cons (ev_var rfl) ea_nil) (rc_lenS (by omega))) rv_I0 fun _ => ev_op ev_c ev_c rv_I0))) fun _ => et_test (ev_op (ev_op (ev_var rfl) ev_c (rv_ixS (c := c) (by omega) (by rw [hl]; exact atI_k (k := 0) rfl))) ev_c rv_ninS)) ?_) (fun hb H1 e => s_ret (D := { nx := _, rt := Q }) ev_c fun H2 e2 => ?_) (fun hb H1 e => ?_)
        · rw [g1, g2]
          show (false || (!(true && decide (r.length < 8)) || !isLow c)) = _
          cases decide (r.length < 8) <;> cases isLow c <;> rfl
        · have := k H2 (e.trans e2)
          have z1 := not_and_false hb
          rw [nameOk_cons hl, ← Bool.and_assoc, z1, Bool.false_and] at this
          exact this
        · refine s_ret (D := { nx := _, rt := Q }) (ev_all (bs := z.cps.toList.map fun c => isLow c || isDig c) ?_) fun H2 e2 => ?_
          · rw [List.map_map]
            refine el_lc1 z.cps.toList _ (evs_str (ev_var rfl)) (by simp [signs]) (by unfold signs; rw [List.length_map]; rw [strLen] at hz; omega) (fun _ => rfl) fun i x a H1 e1 hx ha => ?_
            have ex : x = .str ⟨#[a]⟩ := by
              unfold signs at hx
              rw [List.getElem?_map, ha] at hx
              exact (Option.some.inj hx).symm
            subst ex
            exact ev_orV (ev_op (ev_var rfl) ev_c rv_inS) fun _ => ev_op (ev_var rfl) ev_c rv_inS
          · have := k H2 (e.trans e2)
            have z1 := not_and_true hb
            rw [nameOk_cons hl, ← Bool.and_assoc, z1, Bool.true_and] at this
            show Q (.bl ((z.cps.toList.map fun c => isLow c || isDig c).all id)) H2
            rw [all_map_id, hl]
            exact this
    · refine q_when (b := true) (et_or (a := true) (b := true) (et_not (a := false) (et_B (ev_cb (ea_cons (ev_var rfl) (ea_cons ev_c ea_nil)) (rc_isB fun H1 e => isB_ex hx e)))) (fun h => by cases h)) (fun _ H1 e => s_ret (D := { nx := _, rt := Q }) ev_c fun H2 e2 => k H2 (e.trans e2)) (fun h => by cases h)

theorem spv_is_name {K : Fg} {H : Hp} {z : Str} (hz : z.length ≤ 40000) : SpV (spIsName K) [.str z] H (.bl (nameOk z)) := fun H1 e Q q E => ⟨_, rfl, .inl ⟨z, rfl, hz, q⟩⟩
theorem nameOk_len {z : Str} (h : nameOk z = true) : z.length ≤ 8 := by
  rw [strLen]
  cases hl : z.cps.toList with
  | nil => exact Nat.zero_le _
  | cons c r =>
    rw [nameOk_cons hl] at h
    have h1 : decide (r.length < 8) = true := (Bool.and_eq_true_iff.mp h).1
    have h2 := of_decide_eq_true h1
    rw [List.length_cons]
    omega
def spChkName : Sp := fun vs H Q _ => ∃ z, vs = [.str z] ∧ nameOk z = true ∧ ∀ H', Ex H H' → Q .non H'

theorem ok_check_name {P : Program} {w : World} {K : Fg} {mg : Str → Option Value} {base : Heap} (T : TX K mg) : CalA P w K mg base 2 (At.a K (.glo "check_name")) (spChkName) [] := by
  obtain ⟨fd, F⟩ := (T.says.def_ 2 (d := d_check_name) rfl)
  refine cal_nox F sc_check_name (fun vs H Q E h => ?_) (fun _ _ _ _ _ _ us hl => match us, hl with | [_], _ => rfl) (fun cdv A outer s H vs Q E hr h => ?_)
  · obtain ⟨z, rfl, _⟩ := h
    rfl
  · refine ⟨_, (pss_one (ps_if (pt_not (pt_val (pe_cal ((ok_is_name T).cal (T.glo 9)) hr (by decide) (by rfl) (pa_cons (pv 0) pa_nil)))) (pss_one ps_never) pss_nil)), ?_⟩
    obtain ⟨z, rfl, hz, k⟩ := h
    have hl := nameOk_len hz
    exact s_when (D := { nx := _, rt := Q }) (b := false) (et_is (et_not (et_B (ev_call (ea_cons (ev_var rfl) ea_nil) (spv_is_name (by omega))))) (by rw [hz]; rfl)) (fun h => by cases h) fun _ H1 e => k H1 e

theorem spv_chk {H : Hp} {z : Str} (h : nameOk z = true) : SpV spChkName [.str z] H .non := fun H1 e Q q E => ⟨z, rfl, h, q⟩
/-! ### pipes and meters -/
abbrev PipeD := Str × Str × Str
abbrev MetD := Str × Str × Bool
def IsPipe (K : Fg) (H : Hp) (a : Addr) (d : PipeD) : Prop := ∃ dx t, H a = some (.ins (He.ga K "Pipe") dx [("kept", .ref t)]) ∧ H t = some (.tup [.str d.1, .str d.2.1, .str d.2.2])
def IsMet (K : Fg) (H : Hp) (a : Addr) (d : MetD) : Prop := ∃ dx t, H a = some (.ins (He.ga K "Meter") dx [("kept", .ref t)]) ∧ H t = some (.tup [.str d.1, .str d.2.1, .bl d.2.2])
theorem IsPipe.ei {K : Fg} {H H' : Hp} {a : Addr} {d : PipeD} (h : IsPipe K H a d) (e : Ei H H') : IsPipe K H' a d := by
  obtain ⟨dx, t, h1, h2⟩ := h
  exact ⟨dx, t, e _ _ h1 (by intro xs z; cases z), e _ _ h2 (by intro xs z; cases z)⟩
theorem IsMet.ei {K : Fg} {H H' : Hp} {a : Addr} {d : MetD} (h : IsMet K H a d) (e : Ei H H') : IsMet K H' a d := by
  obtain ⟨dx, t, h1, h2⟩ := h
  exact ⟨dx, t, e _ _ h1 (by intro xs z; cases z), e _ _ h2 (by intro xs z; cases z)⟩
def spPipe0 (K : Fg) : Sp := fun vs H Q _ => ∃ (p dx : Addr) (d : PipeD), vs = [.ref p, .str d.1, .str d.2.1, .str d.2.2] ∧ H p = some (.ins (He.ga K "Pipe") dx []) ∧ nameOk d.1 = true ∧ nameOk d.2.1 = true ∧ nameOk d.2.2 = true ∧ d.2.2 ≠ d.2.1 ∧
  ∀ H', But [p] H H' → IsPipe K H' p d → Q .non H'
def spMet0 (K : Fg) : Sp := fun vs H Q _ => ∃ (p dx : Addr) (d : MetD), vs = [.ref p, .str d.1, .str d.2.1, .bl d.2.2] ∧ H p = some (.ins (He.ga K "Meter") dx []) ∧ nameOk d.1 = true ∧ nameOk d.2.1 = true ∧
  ∀ H', But [p] H H' → IsMet K H' p d → Q .non H'

theorem ok_Pipe_init {P : Program} {w : World} {K : Fg} {mg : Str → Option Value} {base : Heap} (T : TX K mg) : CalA P w K mg base 3 (At.a K (.met "Pipe" "__init__")) (spPipe0 K) [] := by
  obtain ⟨fd, F⟩ := (T.says.def_ 3 (d := d_Pipe_init) rfl)
  refine cal_nox F sc_Pipe_init (fun vs H Q E h => ?_) (fun _ _ _ _ _ _ us hl => match us, hl with | [_, _, _, _], _ => rfl) (fun cdv A outer s H vs Q E hr h => ?_)
  · obtain ⟨p, dx, d, rfl, _⟩ := h
    rfl
  · refine ⟨_, (pss_cons (ps_expr (pe_cal ((ok_check_name T).cal (T.glo 10)) hr (by decide) (by rfl) (pa_cons (pv 1) pa_nil)))
      (pss_cons (ps_expr (pe_cal ((ok_check_name T).cal (T.glo 10)) hr (by decide) (by rfl) (pa_cons (pv 2) pa_nil)))
      (pss_cons (ps_expr (pe_cal ((ok_check_name T).cal (T.glo 10)) hr (by decide) (by rfl) (pa_cons (pv 3) pa_nil)))
      (pss_cons (ps_if (pt_cmpR op_eq (pv 3) (pv 2) (nomark _)) (pss_one ps_never) pss_nil)
      (pss_one (ps_fld (pv 0) (pe_tup (pa_cons (pv 1) (pa_cons (pv 2) (pa_cons (pv 3) pa_nil)))) rfl)))))), ?_⟩
    obtain ⟨p, dx, ⟨n, a, b⟩, rfl, hp, h1, h2, h3, h4, k⟩ := h
    refine q_drop (ev_call (ea_cons (ev_var rfl) ea_nil) (spv_chk h1)) fun H1 e1 => ?_
    refine q_drop (ev_call (ea_cons (ev_var rfl) ea_nil) (spv_chk h2)) fun H2 e2 => ?_
    refine q_drop (ev_call (ea_cons (ev_var rfl) ea_nil) (spv_chk h3)) fun H3 e3 => ?_
    refine q_when (b := false) (et_is (et_test (ev_op (ev_var rfl) (ev_var rfl) (rv_eq rfl))) (decide_eq_false fun z => h4 (V.str.inj z))) (fun h => by cases h) fun _ H4 e4 => ?_
    have E := ((e1.trans e2).trans e3).trans e4
    refine ⟨_, rfl, _, rfl, _, rfl, (by show 3 ≤ sizeLine; decide), fun t nt => ?_⟩
    have np : p ≠ t := ne_of_none (E _ _ hp) nt
    refine ⟨_, rfl, p, _, dx, [], rfl, by rw [upd_ne np]; exact E _ _ hp, (T.cls 11), (T.noat 12), by show 0 < 1000; decide, ?_⟩
    refine k _ (fun c o e n => ?_) ⟨dx, t, upd_same, by rw [upd_ne np.symm, upd_same]⟩
    have nc : c ≠ p := by simpa using n
    rw [upd_ne nc, upd_ne (ne_of_none (E _ _ e) nt)]
    exact E _ _ e
theorem fn_Meter_init {P : Program} {w : World} {K : Fg} {mg : Str → Option Value} {base : Heap} (T : TX K mg) {fd : FuncData} (F : FunD K d_Meter_init.name d_Meter_init.qual d_Meter_init.params d_Meter_init.body d_Meter_init.scope (DX.dv K d_Meter_init) (DX.kv K d_Meter_init) (At.a K (.met "Meter" "__init__")) fd) : FnOk P w K mg base (L2.CX P w) 3 (At.a K (.met "Meter" "__init__")) fd ["self", "name", "at", "sealed"] (spMet0 K) := by
  refine fn_nox F sc_Meter_init (fun vs H Q E h => ?_) (fun cdv A outer s H vs Q E hr h => ?_)
  · obtain ⟨p, dx, d, rfl, _⟩ := h
    rfl
  · refine ⟨_, (pss_cons (ps_expr (pe_cal ((ok_check_name T).cal (T.glo 10)) hr (by decide) (by rfl) (pa_cons (pv 1) pa_nil)))
      (pss_cons (ps_expr (pe_cal ((ok_check_name T).cal (T.glo 10)) hr (by decide) (by rfl) (pa_cons (pv 2) pa_nil)))
      (pss_cons (ps_if (pt_not (pt_val (pe_callB (id := "isinstance") (call_isBk (K := K)) (by rfl) (T.free 1) (by decide +kernel) (pa_cons (pv 3) (pa_cons (pe_bltn (v := .ty "bool") (by rfl) (T.free 2) (by decide +kernel) rfl) pa_nil))))) (pss_one ps_never) pss_nil)
      (pss_one (ps_fld (pv 0) (pe_tup (pa_cons (pv 1) (pa_cons (pv 2) (pa_cons (pv 3) pa_nil)))) rfl))))), ?_⟩
    obtain ⟨p, dx, ⟨n, a, b⟩, rfl, hp, h1, h2, k⟩ := h
    refine q_drop (ev_call (ea_cons (ev_var rfl) ea_nil) (spv_chk h1)) fun H1 e1 => ?_
    refine q_drop (ev_call (ea_cons (ev_var rfl) ea_nil) (spv_chk h2)) fun H2 e2 => ?_
    refine q_when (b := false) (et_is (et_not (et_B (ev_cb (ea_cons (ev_var rfl) (ea_cons ev_c ea_nil)) (rc_isB fun _ _ => isB_blb)))) rfl) (fun h => by cases h) fun _ H4 e4 => ?_
    have E := (e1.trans e2).trans e4
    refine ⟨_, rfl, _, rfl, _, rfl, (by show 3 ≤ sizeLine; decide), fun t nt => ?_⟩
    have np : p ≠ t := ne_of_none (E _ _ hp) nt
    refine ⟨_, rfl, p, _, dx, [], rfl, by rw [upd_ne np]; exact E _ _ hp, (T.cls 13), (T.noat 14), by show 0 < 1000; decide, ?_⟩
    refine k _ (fun c o e n => ?_) ⟨dx, t, upd_same, by rw [upd_ne np.symm, upd_same]⟩
    have nc : c ≠ p := by simpa using n
    rw [upd_ne nc, upd_ne (ne_of_none (E _ _ e) nt)]
    exact E _ _ e

theorem ok_Meter_init_sealed {P : Program} {w : World} {K : Fg} {mg : Str → Option Value} {base : Heap} (T : TX K mg) : CalK P w K mg base 3 (At.a K (.met "Meter" "__init__")) 3 ["sealed"] (fun vs zs => vs ++ zs) (spMet0 K) := by
  obtain ⟨fd, F⟩ := (T.says.def_ 4 (d := d_Meter_init) rfl)
  obtain ⟨mv, b⟩ := FunD.kbinds0 (ps := ["self", "name", "at", "sealed"]) F 3 ["sealed"] [] (fun us mv ws => us ++ ws) (by show [_] ≠ []; exact List.cons_ne_nil _ _) (fun _ h => by cases h) (fun r1 _ r3 => r1.append r3) fun D doc pm an cdv ct us mv ws h1 h2 h3 => match us, mv, ws, h1, h2, h3 with | [_, _, _], [], [_], _, _, _ => rfl
  exact ⟨fd, _, _, fn_Meter_init T F, b, F.kp⟩


def sp_Pipe_name (K : Fg) : Sp := fun vs H Q _ => ∃ (a : Addr) (d : PipeD), vs = [.ref a] ∧ IsPipe K H a d ∧ ∀ H', Ex H H' → Q (.str d.1) H'

theorem ok_Pipe_name {P : Program} {w : World} {K : Fg} {mg : Str → Option Value} {base : Heap} (T : TX K mg) : CalA P w K mg base 1 (At.a K (.prp "Pipe" "name")) (sp_Pipe_name K) [] := by
  obtain ⟨fd, F⟩ := (T.says.def_ 5 (d := d_Pipe_name) rfl)
  refine cal_nox F sc_Pipe_name (fun vs H Q E h => ?_) (fun _ _ _ _ _ _ us hl => match us, hl with | [_], _ => rfl) (fun cdv A outer s H vs Q E hr h => ?_)
  · obtain ⟨a, d, rfl, _⟩ := h
    rfl
  · refine ⟨_, (pss_one (ps_ret (pe_ix (ix_tupk (K := K)) (pe_fldk (K := K) (pv 0) rfl) pe_int (fun _ _ => rfl)))), ?_⟩
    obtain ⟨a, d, rfl, ⟨dx, t, h1, h2⟩, k⟩ := h
    exact s_ret (D := { nx := _, rt := Q }) (ev_op (ev_fld (ev_var rfl) h1 (T.cls 11) (T.noat 12) lk1) ev_c (rv_ixT (sqT_of h2) (atI_k (k := 0) rfl))) k

theorem ev_Pipe_name {K : Fg} {σ : L2.St} {H : Hp} {ta : TE} {E : XK} {a : Addr} {d : PipeD} (h : Ev ta σ H (.ref a)) (hd : IsPipe K H a d) : Ev (tProp (He.ga K "Pipe") (sp_Pipe_name K) [] E ta) σ H (.str d.1) := by
  obtain ⟨dx, t, h1, h2⟩ := id hd
  exact ev_prp h h1 fun H1 e Q q E => ⟨a, d, rfl, hd.ei (ei_ex e), q⟩


def sp_Pipe_start (K : Fg) : Sp := fun vs H Q _ => ∃ (a : Addr) (d : PipeD), vs = [.ref a] ∧ IsPipe K H a d ∧ ∀ H', Ex H H' → Q (.str d.2.1) H'

theorem ok_Pipe_start {P : Program} {w : World} {K : Fg} {mg : Str → Option Value} {base : Heap} (T : TX K mg) : CalA P w K mg base 1 (At.a K (.prp "Pipe" "start")) (sp_Pipe_start K) [] := by
  obtain ⟨fd, F⟩ := (T.says.def_ 6 (d := d_Pipe_start) rfl)
  refine cal_nox F sc_Pipe_start (fun vs H Q E h => ?_) (fun _ _ _ _ _ _ us hl => match us, hl with | [_], _ => rfl) (fun cdv A outer s H vs Q E hr h => ?_)
  · obtain ⟨a, d, rfl, _⟩ := h
    rfl
  · refine ⟨_, (pss_one (ps_ret (pe_ix (ix_tupk (K := K)) (pe_fldk (K := K) (pv 0) rfl) pe_int (fun _ _ => rfl)))), ?_⟩
    obtain ⟨a, d, rfl, ⟨dx, t, h1, h2⟩, k⟩ := h
    exact s_ret (D := { nx := _, rt := Q }) (ev_op (ev_fld (ev_var rfl) h1 (T.cls 11) (T.noat 12) lk1) ev_c (rv_ixT (sqT_of h2) (atI_k (k := 1) rfl))) k

theorem ev_Pipe_start {K : Fg} {σ : L2.St} {H : Hp} {ta : TE} {E : XK} {a : Addr} {d : PipeD} (h : Ev ta σ H (.ref a)) (hd : IsPipe K H a d) : Ev (tProp (He.ga K "Pipe") (sp_Pipe_start K) [] E ta) σ H (.str d.2.1) := by
  obtain ⟨dx, t, h1, h2⟩ := id hd
  exact ev_prp h h1 fun H1 e Q q E => ⟨a, d, rfl, hd.ei (ei_ex e), q⟩


def sp_Pipe_end (K : Fg) : Sp := fun vs H Q _ => ∃ (a : Addr) (d : PipeD), vs = [.ref a] ∧ IsPipe K H a d ∧ ∀ H', Ex H H' → Q (.str d.2.2) H'

theorem ok_Pipe_end {P : Program} {w : World} {K : Fg} {mg : Str → Option Value} {base : Heap} (T : TX K mg) : CalA P w K mg base 1 (At.a K (.prp "Pipe" "end")) (sp_Pipe_end K) [] := by
  obtain ⟨fd, F⟩ := (T.says.def_ 7 (d := d_Pipe_end) rfl)
  refine cal_nox F sc_Pipe_end (fun vs H Q E h => ?_) (fun _ _ _ _ _ _ us hl => match us, hl with | [_], _ => rfl) (fun cdv A outer s H vs Q E hr h => ?_)
  · obtain ⟨a, d, rfl, _⟩ := h
    rfl
  · refine ⟨_, (pss_one (ps_ret (pe_ix (ix_tupk (K := K)) (pe_fldk (K := K) (pv 0) rfl) pe_int (fun _ _ => rfl)))), ?_⟩
    obtain ⟨a, d, rfl, ⟨dx, t, h1, h2⟩, k⟩ := h
    exact s_ret (D := { nx := _, rt := Q }) (ev_op (ev_fld (ev_var rfl) h1 (T.cls 11) (T.noat 12) lk1) ev_c (rv_ixT (sqT_of h2) (atI_k (k := 2) rfl))) k

theorem ev_Pipe_end {K : Fg} {σ : L2.St} {H : Hp} {ta : TE} {E : XK} {a : Addr} {d : PipeD} (h : Ev ta σ H (.ref a)) (hd : IsPipe K H a d) : Ev (tProp (He.ga K "Pipe") (sp_Pipe_end K) [] E ta) σ H (.str d.2.2) := by
  obtain ⟨dx, t, h1, h2⟩ := id hd
  exact ev_prp h h1 fun H1 e Q q E => ⟨a, d, rfl, hd.ei (ei_ex e), q⟩


def sp_Meter_name (K : Fg) : Sp := fun vs H Q _ => ∃ (a : Addr) (d : MetD), vs = [.ref a] ∧ IsMet K H a d ∧ ∀ H', Ex H H' → Q (.str d.1) H'

theorem ok_Meter_name {P : Program} {w : World} {K : Fg} {mg : Str → Option Value} {base : Heap} (T : TX K mg) : CalA P w K mg base 1 (At.a K (.prp "Meter" "name")) (sp_Meter_name K) [] := by
  obtain ⟨fd, F⟩ := (T.says.def_ 8 (d := d_Meter_name) rfl)
  refine cal_nox F sc_Meter_name (fun vs H Q E h => ?_) (fun _ _ _ _ _ _ us hl => match us, hl with | [_], _ => rfl) (fun cdv A outer s H vs Q E hr h => ?_)
  · obtain ⟨a, d, rfl, _⟩ := h
    rfl
  · refine ⟨_, (pss_one (ps_ret (pe_ix (ix_tupk (K := K)) (pe_fldk (K := K) (pv 0) rfl) pe_int (fun _ _ => rfl)))), ?_⟩
    obtain ⟨a, d, rfl, ⟨dx, t, h1, h2⟩, k⟩ := h
    exact s_ret (D := { nx := _, rt := Q }) (ev_op (ev_fld (ev_var rfl) h1 (T.cls 13) (T.noat 14) lk1) ev_c (rv_ixT (sqT_of h2) (atI_k (k := 0) rfl))) k

theorem ev_Meter_name {K : Fg} {σ : L2.St} {H : Hp} {ta : TE} {E : XK} {a : Addr} {d : MetD} (h : Ev ta σ H (.ref a)) (hd : IsMet K H a d) : Ev (tProp (He.ga K "Meter") (sp_Meter_name K) [] E ta) σ H (.str d.1) := by
  obtain ⟨dx, t, h1, h2⟩ := id hd
  exact ev_prp h h1 fun H1 e Q q E => ⟨a, d, rfl, hd.ei (ei_ex e), q⟩


def sp_Meter_at (K : Fg) : Sp := fun vs H Q _ => ∃ (a : Addr) (d : MetD), vs = [.ref a] ∧ IsMet K H a d ∧ ∀ H', Ex H H' → Q (.str d.2.1) H'

theorem ok_Meter_at {P : Program} {w : World} {K : Fg} {mg : Str → Option Value} {base : Heap} (T : TX K mg) : CalA P w K mg base 1 (At.a K (.prp "Meter" "at")) (sp_Meter_at K) [] := by
  obtain ⟨fd, F⟩ := (T.says.def_ 9 (d := d_Meter_at) rfl)
  refine cal_nox F sc_Meter_at (fun vs H Q E h => ?_) (fun _ _ _ _ _ _ us hl => match us, hl with | [_], _ => rfl) (fun cdv A outer s H vs Q E hr h => ?_)
  · obtain ⟨a, d, rfl, _⟩ := h
    rfl
  · refine ⟨_, (pss_one (ps_ret (pe_ix (ix_tupk (K := K)) (pe_fldk (K := K) (pv 0) rfl) pe_int (fun _ _ => rfl)))), ?_⟩
    obtain ⟨a, d, rfl, ⟨dx, t, h1, h2⟩, k⟩ := h
    exact s_ret (D := { nx := _, rt := Q }) (ev_op (ev_fld (ev_var rfl) h1 (T.cls 13) (T.noat 14) lk1) ev_c (rv_ixT (sqT_of h2) (atI_k (k := 1) rfl))) k

theorem ev_Meter_at {K : Fg} {σ : L2.St} {H : Hp} {ta : TE} {E : XK} {a : Addr} {d : MetD} (h : Ev ta σ H (.ref a)) (hd : IsMet K H a d) : Ev (tProp (He.ga K "Meter") (sp_Meter_at K) [] E ta) σ H (.str d.2.1) := by
  obtain ⟨dx, t, h1, h2⟩ := id hd
  exact ev_prp h h1 fun H1 e Q q E => ⟨a, d, rfl, hd.ei (ei_ex e), q⟩


def sp_Meter_sealed (K : Fg) : Sp := fun vs H Q _ => ∃ (a : Addr) (d : MetD), vs = [.ref a] ∧ IsMet K H a d ∧ ∀ H', Ex H H' → Q (.bl d.2.2) H'

theorem ok_Meter_sealed {P : Program} {w : World} {K : Fg} {mg : Str → Option Value} {base : Heap} (T : TX K mg) : CalA P w K mg base 1 (At.a K (.prp "Meter" "sealed")) (sp_Meter_sealed K) [] := by
  obtain ⟨fd, F⟩ := (T.says.def_ 10 (d := d_Meter_sealed) rfl)
  refine cal_nox F sc_Meter_sealed (fun vs H Q E h => ?_) (fun _ _ _ _ _ _ us hl => match us, hl with | [_], _ => rfl) (fun cdv A outer s H vs Q E hr h => ?_)
  · obtain ⟨a, d, rfl, _⟩ := h
    rfl
  · refine ⟨_, (pss_one (ps_ret (pe_ix (ix_tupk (K := K)) (pe_fldk (K := K) (pv 0) rfl) pe_int (fun _ _ => rfl)))), ?_⟩
    obtain ⟨a, d, rfl, ⟨dx, t, h1, h2⟩, k⟩ := h
    exact s_ret (D := { nx := _, rt := Q }) (ev_op (ev_fld (ev_var rfl) h1 (T.cls 13) (T.noat 14) lk1) ev_c (rv_ixT (sqT_of h2) (atI_k (k := 2) rfl))) k

theorem ev_Meter_sealed {K : Fg} {σ : L2.St} {H : Hp} {ta : TE} {E : XK} {a : Addr} {d : MetD} (h : Ev ta σ H (.ref a)) (hd : IsMet K H a d) : Ev (tProp (He.ga K "Meter") (sp_Meter_sealed K) [] E ta) σ H (.bl d.2.2) := by
  obtain ⟨dx, t, h1, h2⟩ := id hd
  exact ev_prp h h1 fun H1 e Q q E => ⟨a, d, rfl, hd.ei (ei_ex e), q⟩

end RV

namespace RV
open PySem PySem.Spec PyProof.Rows L2 Evl


/-! ### data of nets -/
def PipeOk (d : PipeD) : Prop := nameOk d.1 = true ∧ nameOk d.2.1 = true ∧ nameOk d.2.2 = true ∧ d.2.2 ≠ d.2.1
def MetOk (d : MetD) : Prop := nameOk d.1 = true ∧ nameOk d.2.1 = true
theorem IsPipe.fz {K : Fg} {H H' : Hp} {a : Addr} {d : PipeD} (h : IsPipe K H a d) (e : Fz K H H') : IsPipe K H' a d := by
  obtain ⟨dx, t, h1, h2⟩ := h
  exact ⟨dx, t, fz_ins e h1 (x := "Pipe") (by decide) rfl (List.cons_ne_nil _ _), fz_tup e h2⟩
theorem IsMet.fz {K : Fg} {H H' : Hp} {a : Addr} {d : MetD} (h : IsMet K H a d) (e : Fz K H H') : IsMet K H' a d := by
  obtain ⟨dx, t, h1, h2⟩ := h
  exact ⟨dx, t, fz_ins e h1 (x := "Meter") (by decide) rfl (List.cons_ne_nil _ _), fz_tup e h2⟩
/-- a pipe, a meter with its data -/
def VPipe (K : Fg) (d : PipeD) (v : V) (H : Hp) : Prop := PipeOk d ∧ ∃ a, v = .ref a ∧ IsPipe K H a d
def VMet (K : Fg) (d : MetD) (v : V) (H : Hp) : Prop := MetOk d ∧ ∃ a, v = .ref a ∧ IsMet K H a d
theorem VPipe.fz {K : Fg} {H H' : Hp} {v : V} {d : PipeD} (e : Fz K H H') (h : VPipe K d v H) : VPipe K d v H' := by
  obtain ⟨o, a, rfl, h⟩ := h
  exact ⟨o, a, rfl, h.fz e⟩
theorem VMet.fz {K : Fg} {H H' : Hp} {v : V} {d : MetD} (e : Fz K H H') (h : VMet K d v H) : VMet K d v H' := by
  obtain ⟨o, a, rfl, h⟩ := h
  exact ⟨o, a, rfl, h.fz e⟩
abbrev Pipes (K : Fg) (H : Hp) (ps : List PipeD) (xs : List V) : Prop := Each (VPipe K) H ps xs
abbrev Mets (K : Fg) (H : Hp) (ms : List MetD) (xs : List V) : Prop := Each (VMet K) H ms xs
theorem pipes_fz {K : Fg} {H H' : Hp} (e : Fz K H H') {ps : List PipeD} {xs : List V} (h : Pipes K H ps xs) : Pipes K H' ps xs := Each.fz (P := VPipe K) (fun _ _ _ _ e h => VPipe.fz e h) e h
theorem mets_fz {K : Fg} {H H' : Hp} (e : Fz K H H') {ps : List MetD} {xs : List V} (h : Mets K H ps xs) : Mets K H' ps xs := Each.fz (P := VMet K) (fun _ _ _ _ e h => VMet.fz e h) e h
/-- what Net asks -/
def PsOk (ps : List PipeD) : Prop := ps ≠ [] ∧ ps.length ≤ 12 ∧ (ps.map (·.1)).Nodup
def MsOk (ps : List PipeD) (ms : List MetD) : Prop := ms.length ≤ 12 ∧ (ms.map (·.1)).Nodup ∧ ∀ d ∈ ms, d.2.1 ∈ ps.map (·.1)
theorem nodup_take {α : Type} [DecidableEq α] {l : List α} (h : l.Nodup) {i : Nat} {x : α} (hx : l[i]? = some x) : x ∉ l.take i := fun hm => by
  obtain ⟨j, hj, e⟩ := List.mem_iff_getElem.mp hm
  have hi : i < l.length := (List.getElem?_eq_some_iff.mp hx).1
  have hj2 : j < i := by
    rw [List.length_take] at hj
    omega
  have e2 : l[j]'(by omega) = x := by
    rw [← e, List.getElem_take]
  have e3 : l[i] = x := (List.getElem?_eq_some_iff.mp hx).2
  have h2 := List.nodup_iff_pairwise_ne.mp h
  exact List.pairwise_iff_getElem.mp h2 j i (by omega) hi hj2 (e2.trans e3.symm)
def spChkPipes (K : Fg) : Sp := fun vs H Q _ => ∃ t xs ps, vs = [.ref t] ∧ H t = some (.tup xs) ∧ Pipes K H ps xs ∧ PsOk ps ∧ ∀ H', Ex H H' → Q .non H'
def spChkMets (K : Fg) : Sp := fun vs H Q _ => ∃ t u xs ys ms ps, vs = [.ref t, .ref u] ∧ H t = some (.tup xs) ∧ H u = some (.tup ys) ∧ Mets K H ms xs ∧ Pipes K H ps ys ∧ ys.length ≤ 12 ∧ MsOk ps ms ∧ ∀ H', Ex H H' → Q .non H'

theorem ok_check_pipes {P : Program} {w : World} {K : Fg} {mg : Str → Option Value} {base : Heap} (T : TX K mg) : CalA P w K mg base 3 (At.a K (.glo "check_pipes")) (spChkPipes K) [] := by
  obtain ⟨fd, F⟩ := (T.says.def_ 11 (d := d_check_pipes) rfl)
  refine cal_nox F sc_check_pipes (fun vs H Q E h => ?_) (fun _ _ _ _ _ _ us hl => match us, hl with | [_], _ => rfl) (fun cdv A outer s H vs Q E hr h => ?_)
  · obtain ⟨t, xs, ps, rfl, _⟩ := h
    rfl
  · refine ⟨_, (pss_cons (ps_if (PW.pt (pw_or (pt_not (pt_val (pe_callB (id := "isinstance") (call_isBk (K := K)) (by rfl) (T.free 1) (by decide +kernel) (pa_cons (pv 0) (pa_cons (pe_bltn (v := .ty "tuple") (by rfl) (T.free 15) (by decide +kernel) rfl) pa_nil))))) (pw_or1 (pt_cmpR op_eq (pe_callB (id := "len") (call_len_seqk (K := K)) (by rfl) (T.free 4) (by decide +kernel) (pa_cons (pv 0) pa_nil)) pe_int (nomark _))))) (pss_one ps_never) pss_nil)
      (pss_cons (ps_set (i := 1) sc_check_pipes.nd rfl (by first | exact Or.inl rfl | exact Or.inr rfl) (pe_lst pa_nil))
      (pss_one (ps_for PassesOwn.never rfl (pi_enumTk (K := K) (by rfl) (T.free 16) (pa_cons (pv 0) pa_nil)) (pg_tupk (K := K) (n := 2) rfl (pgs_cons (pg_name (i := 2) sc_check_pipes.nd rfl (by first | exact Or.inl rfl | exact Or.inr rfl)) (pgs_cons (pg_name (i := 3) sc_check_pipes.nd rfl (by first | exact Or.inl rfl | exact Or.inr rfl)) pgs_nil)))
      (pss_cons (ps_if (PW.pt (pw_or (pt_not (pt_val (pe_callB (id := "isinstance") (call_isClk (K := K)) (by rfl) (T.free 1) (by decide +kernel) (pa_cons (pv 3) (pa_cons (pe_glob (by rfl) (T.glo 17) (rel_ref _)) pa_nil))))) (pw_or (pt_cmpR (op_in_seqk (K := K)) (pe_prp (prp_of (T.cls 11) (T.prp 18) (ok_Pipe_name T)) hr (by decide) (pv 3) rfl) (pv 1) (by rfl)) (pw_or1 (pt_cmpR op_ge (pv 2) (pe_gv (by rfl) (T.int 19)) (nomark _)))))) (pss_one ps_never) pss_nil)
      (pss_one (ps_expr (pe_bm PySem.F.plainAttrs_list PySem.F.slot_list_append PySem.F.type_list_append mt_append (pv 1) (pa_cons (pe_prp (prp_of (T.cls 11) (T.prp 18) (ok_Pipe_name T)) hr (by decide) (pv 3) rfl) pa_nil))))))))), ?_⟩
    obtain ⟨t, xs, ps, rfl, ht, hp, ⟨hn, hl, hnd⟩, k⟩ := h
    have hlen := Each.len hp
    have hpos : 0 < ps.length := List.length_pos_iff.mpr hn
    refine q_when (b := false) (et_is (et_or (et_not (et_B (ev_isB (ev_var rfl) ev_c (isB_tup ht)))) fun _ => et_test (ev_op (ev_cb (ea_cons (ev_var rfl) ea_nil) (rc_lenT (sqT_of ht))) ev_c (rv_eq rfl))) ?_) (fun h => by cases h) fun _ H1 e1 => ?_
    · show (!true || _) = false
      have : ¬ (V.int (xs.length : Int) = .int 0) := fun z => by
        have := V.int.inj z
        omega
      simp [this]
    refine q_asgL (el_lst ea_nil (by decide)) fun L H2 nL e2 hL => ?_
    refine s_forE (a := t) (xs := xs) (ea_cons (ev_var rfl) ea_nil) (sqT_of (e2 _ _ (e1 _ _ ht))) (fun i σ' H' => (∃ o2 o3, σ' = [some (.ref t), some (.ref L), o2, o3]) ∧ Ex H1 H' ∧ H' L = some (.lst (((ps.map (·.1)).take i).map V.str))) (fun H3 e3 => ⟨⟨_, _, rfl⟩, e2.trans e3, e3 _ _ hL⟩) (fun i σ' H' _ p => sqT_of (p.2.1 _ _ (e1 _ _ ht))) (fun i x σ' H' hx p tp nT => ?_) fun σ' H' p => k _ (e1.trans p.2.1)
    obtain ⟨⟨o2, o3, rfl⟩, ex, hL'⟩ := p
    obtain ⟨d, hd, ok, a, rfl, hI⟩ := Each.at hp hx
    have hT := (e1.trans ex).trans (same_new (o := .tup [.int (i : Nat), .ref a]) nT)
    have hI2 := hI.fz (K := K) hT.fz
    obtain ⟨dx, tt, hI3, _⟩ := id hI2
    have hL2 : upd H' tp (.tup [.int (i : Nat), .ref a]) L = some (.lst (((ps.map (·.1)).take i).map V.str)) := hp_old nT hL'
    have hdn : (ps.map (·.1))[i]? = some d.1 := by rw [List.getElem?_map, hd]; rfl
    have hi : i < ps.length := (List.getElem?_eq_some_iff.mp hd).1
    refine q_when (b := false) (et_is (et_or (et_not (et_B (ev_isC (ev_var rfl) ev_c (isC_ins hI3 (T.cls 11) (T.ins 20) (T.kit 21))))) fun _ => et_or (et_test (ev_op (ev_Pipe_name (ev_var rfl) hI2) (ev_var rfl) (rv_isL (sqL_of hL2) rfl flat_strs))) fun _ => et_test (ev_op (ev_var rfl) ev_c rv_I0)) ?_) (fun h => by cases h) fun _ H3 e3 => ?_
    · rw [inV_str]
      have h1 : decide (d.1 ∈ (ps.map (·.1)).take i) = false := decide_eq_false (nodup_take hnd hdn)
      have h2 : decide ((12 : Int) ≤ (i : Int)) = false := decide_eq_false (by omega)
      rw [h1]
      show (!true || (false || decide _)) = false
      first
      | (rw [h2]; rfl)
      | simp; omega
    refine s_app (e3 _ _ hL2) (ev_var rfl) (ev_Pipe_name (ev_var rfl) (hI2.fz e3.fz)) (by simp; omega) fun H4 e4 => ⟨⟨_, _, rfl⟩, ?_, ?_⟩
    · exact (((ex.trans (same_new nT)).trans e3).trans e4).mut nL
    · rw [upd_same, List.take_succ, hdn]
      simp
theorem ok_check_meters {P : Program} {w : World} {K : Fg} {mg : Str → Option Value} {base : Heap} (T : TX K mg) : CalA P w K mg base 3 (At.a K (.glo "check_meters")) (spChkMets K) [] := by
  obtain ⟨fd, F⟩ := (T.says.def_ 12 (d := d_check_meters) rfl)
  refine cal_nox F sc_check_meters (fun vs H Q E h => ?_) (fun _ _ _ _ _ _ us hl => match us, hl with | [_, _], _ => rfl) (fun cdv A outer s H vs Q E hr h => ?_)
  · obtain ⟨t, u, xs, ys, ms, ps, rfl, _⟩ := h
    rfl
  · refine ⟨_, (pss_cons (ps_if (pt_not (pt_val (pe_callB (id := "isinstance") (call_isBk (K := K)) (by rfl) (T.free 1) (by decide +kernel) (pa_cons (pv 0) (pa_cons (pe_bltn (v := .ty "tuple") (by rfl) (T.free 15) (by decide +kernel) rfl) pa_nil))))) (pss_one ps_never) pss_nil)
      (pss_cons (ps_setLc (i := 2) (own := [("pipe", 6)]) (by rfl) sc_check_meters.nd rfl rfl (sw_true rfl rfl rfl (by decide +kernel)) (pi_tupk (K := K) (pv 1)) (blkOk_by (own := [("pipe", 6)]) (by kernel_rfl)) (fun _ _ _ _ _ => (pg_name (i := 6) sc_check_meters.nd rfl (by first | exact Or.inl rfl | exact Or.inr rfl))) (fun _ _ _ _ _ => pts_nil) (fun _ _ _ _ _ => (pe_prp (prp_of (T.cls 11) (T.prp 18) (ok_Pipe_name T)) hr (by decide) (pv 6) rfl)))
      (pss_cons (ps_set (i := 3) sc_check_meters.nd rfl (by first | exact Or.inl rfl | exact Or.inr rfl) (pe_lst pa_nil))
      (pss_one (ps_for PassesOwn.never rfl (pi_enumTk (K := K) (by rfl) (T.free 16) (pa_cons (pv 0) pa_nil)) (pg_tupk (K := K) (n := 2) rfl (pgs_cons (pg_name (i := 4) sc_check_meters.nd rfl (by first | exact Or.inl rfl | exact Or.inr rfl)) (pgs_cons (pg_name (i := 5) sc_check_meters.nd rfl (by first | exact Or.inl rfl | exact Or.inr rfl)) pgs_nil)))
      (pss_cons (ps_if (PW.pt (pw_or (pt_not (pt_val (pe_callB (id := "isinstance") (call_isClk (K := K)) (by rfl) (T.free 1) (by decide +kernel) (pa_cons (pv 5) (pa_cons (pe_glob (by rfl) (T.glo 22) (rel_ref _)) pa_nil))))) (pw_or (pt_cmpR (op_in_seqk (K := K)) (pe_prp (prp_of (T.cls 13) (T.prp 23) (ok_Meter_name T)) hr (by decide) (pv 5) rfl) (pv 3) (by rfl)) (pw_or (pt_cmpR (op_notIn_seqk (K := K)) (pe_prp (prp_of (T.cls 13) (T.prp 24) (ok_Meter_at T)) hr (by decide) (pv 5) rfl) (pv 2) (by rfl)) (pw_or1 (pt_cmpR op_ge (pv 4) (pe_gv (by rfl) (T.int 25)) (nomark _))))))) (pss_one ps_never) pss_nil)
      (pss_one (ps_expr (pe_bm PySem.F.plainAttrs_list PySem.F.slot_list_append PySem.F.type_list_append mt_append (pv 3) (pa_cons (pe_prp (prp_of (T.cls 13) (T.prp 23) (ok_Meter_name T)) hr (by decide) (pv 5) rfl) pa_nil)))))))))), ?_⟩
    obtain ⟨t, u, xs, ys, ms, ps, rfl, ht, hu, hm, hp, hy, ⟨hl, hnd, hat⟩, k⟩ := h
    have hlen := Each.len hm
    have hlp := Each.len hp
    refine q_when (b := false) (et_not (a := true) (et_B (ev_isB (ev_var rfl) ev_c (isB_tup ht)))) (fun h => by cases h) fun _ H1 e1 => ?_
    refine q_asgL (xs := (ps.map (·.1)).map V.str) (by
      rw [List.map_map]
      refine el_lc1 ps _ (evs_tup (ev_var rfl) (sqT_of (e1 _ _ hu))) (by omega) (by omega) (fun _ => rfl) fun i x d H2 e2 hx hd => ?_
      obtain ⟨d', hd', ok, a, rfl, hI⟩ := Each.at hp hx
      cases hd.symm.trans hd'
      exact ev_Pipe_name (ev_var rfl) (hI.fz (e1.trans e2).fz)) fun LP H2 nP e2 hP => ?_
    refine q_asgL (el_lst ea_nil (by decide)) fun L H3 nL e3 hL => ?_
    refine s_forE (a := t) (xs := xs) (ea_cons (ev_var rfl) ea_nil) (sqT_of ((e1.trans (e2.trans e3)) _ _ ht)) (fun i σ' H' => (∃ o4 o5 o6, σ' = [some (.ref t), some (.ref u), some (.ref LP), some (.ref L), o4, o5, o6]) ∧ Ex H2 H' ∧ H' L = some (.lst (((ms.map (·.1)).take i).map V.str))) (fun H4 e4 => ⟨⟨_, _, _, rfl⟩, e3.trans e4, e4 _ _ hL⟩) (fun i σ' H' _ p => sqT_of (p.2.1 _ _ ((e1.trans e2) _ _ ht))) (fun i x σ' H' hx p tp nT => ?_) fun σ' H' p => k _ ((e1.trans e2).trans p.2.1)
    obtain ⟨⟨o4, o5, o6, rfl⟩, ex, hL'⟩ := p
    obtain ⟨d, hd, ok, a, rfl, hI⟩ := Each.at hm hx
    have hT := ((e1.trans e2).trans ex).trans (same_new (o := .tup [.int (i : Nat), .ref a]) nT)
    have hI2 := hI.fz (K := K) hT.fz
    obtain ⟨dx, tt, hI3, _⟩ := id hI2
    have hL2 : upd H' tp (.tup [.int (i : Nat), .ref a]) L = some (.lst (((ms.map (·.1)).take i).map V.str)) := hp_old nT hL'
    have hP2 : upd H' tp (.tup [.int (i : Nat), .ref a]) LP = some (.lst ((ps.map (·.1)).map V.str)) := hp_old nT (ex _ _ hP)
    have hdn : (ms.map (·.1))[i]? = some d.1 := by rw [List.getElem?_map, hd]; rfl
    have hi : i < ms.length := (List.getElem?_eq_some_iff.mp hd).1
    refine q_when (b := false) (et_is (et_or (et_not (et_B (ev_isC (ev_var rfl) ev_c (isC_ins hI3 (T.cls 13) (T.ins 26) (T.kit 27))))) fun _ => et_or (et_test (ev_op (ev_Meter_name (ev_var rfl) hI2) (ev_var rfl) (rv_isL (sqL_of hL2) rfl flat_strs))) fun _ => et_or (et_test (ev_op (ev_Meter_at (ev_var rfl) hI2) (ev_var rfl) (rv_niL (sqL_of hP2) rfl flat_strs))) fun _ => et_test (ev_op (ev_var rfl) ev_c rv_I0)) ?_) (fun h => by cases h) fun _ H3 e3 => ?_
    · rw [inV_str, inV_str]
      have h1 : decide (d.1 ∈ (ms.map (·.1)).take i) = false := decide_eq_false (nodup_take hnd hdn)
      have h2 : decide ((12 : Int) ≤ (i : Int)) = false := decide_eq_false (by omega)
      have h3 : decide (d.2.1 ∈ ps.map (·.1)) = true := decide_eq_true (hat d (List.mem_of_getElem? hd))
      rw [h1, h3]
      show (!true || (false || (!true || decide _))) = false
      first
      | (rw [h2]; rfl)
      | simp; omega
    refine s_app (e3 _ _ hL2) (ev_var rfl) (ev_Meter_name (ev_var rfl) (hI2.fz e3.fz)) (by simp; omega) fun H4 e4 => ⟨⟨_, _, _, rfl⟩, ?_, ?_⟩
    · exact (((ex.trans (same_new nT)).trans e3).trans e4).mut nL
    · rw [upd_same, List.take_succ, hdn]
      simp
end RV

namespace RV
open PySem PySem.Spec PyProof.Rows L2 Evl


/-! ### lines -/
abbrev SPC : Str := " "
abbrev NLN : Str := "\n"
def partsP (d : PipeD) : List Str := ["pipe", d.1, d.2.1, d.2.2]
def partsM (d : MetD) : List Str := if d.2.2 then ["meter", d.1, d.2.1, "sealed"] else ["meter", d.1, d.2.1]
def lineP (d : PipeD) : Str := Txt.join SPC (partsP d)
def lineM (d : MetD) : Str := Txt.join SPC (partsM d)
abbrev ItD := PipeD ⊕ MetD
def lineI : ItD → Str
  | .inl d => lineP d
  | .inr d => lineM d
def partsI : ItD → List Str
  | .inl d => partsP d
  | .inr d => partsM d
def ItOk : ItD → Prop
  | .inl d => PipeOk d
  | .inr d => MetOk d
def VIt (K : Fg) : ItD → V → Hp → Prop
  | .inl d, v, H => VPipe K d v H
  | .inr d, v, H => VMet K d v H
theorem VIt.fz {K : Fg} {H H' : Hp} {v : V} {d : ItD} (e : Fz K H H') (h : VIt K d v H) : VIt K d v H' := by
  cases d with
  | inl d => exact VPipe.fz e h
  | inr d => exact VMet.fz e h
theorem tl_joinT (y : Str) (l : List Str) : TL.tl (Txt.join y l) = TL.joinL (TL.tl y) (l.map TL.tl) := by rw [TL.join_eq, TL.tl_join]
theorem mem_joinL {S : List Nat} {c : Nat} : ∀ {l : List (List Nat)}, c ∈ TL.joinL S l → c ∈ S ∨ ∃ p ∈ l, c ∈ p
  | [], h => by cases h
  | [p], h => .inr ⟨p, List.mem_singleton.mpr rfl, h⟩
  | p :: q :: r, h => by
    rcases List.mem_append.mp h with h | h
    · exact .inr ⟨p, List.mem_cons_self .., h⟩
    · rcases List.mem_append.mp h with h | h
      · exact .inl h
      · rcases mem_joinL h with h | ⟨z, hz, h⟩
        · exact .inl h
        · exact .inr ⟨z, List.mem_cons_of_mem _ hz, h⟩
theorem len_joinL {S : List Nat} : ∀ {l : List (List Nat)} {n : Nat}, (∀ p ∈ l, p.length ≤ n) → (TL.joinL S l).length ≤ l.length * (n + S.length)
  | [], _, _ => Nat.zero_le _
  | [p], n, h => by
    have := h p (List.mem_singleton.mpr rfl)
    show p.length ≤ _
    rw [List.length_singleton]
    omega
  | p :: q :: r, n, h => by
    have h1 := h p (List.mem_cons_self ..)
    have h2 := len_joinL (S := S) (l := q :: r) (n := n) fun z hz => h z (List.mem_cons_of_mem _ hz)
    show (p ++ (S ++ TL.joinL S (q :: r))).length ≤ _
    rw [List.length_append, List.length_append, List.length_cons, Nat.succ_mul]
    omega
/-- no sign of a name is a blank or a line's end -/
theorem nameOk_sign {z : Str} (h : nameOk z = true) {c : Nat} (hc : c ∈ TL.tl z) : isLow c || isDig c := by
  cases hl : z.cps.toList with
  | nil =>
    rw [nameOk_nil hl] at h
    cases h
  | cons a r =>
    rw [nameOk_cons hl] at h
    have h1 := (Bool.and_eq_true_iff.mp (Bool.and_eq_true_iff.mp h).2).2
    rw [← hl] at h1
    exact List.all_eq_true.mp h1 c hc
theorem nameOk_free {z : Str} (h : nameOk z = true) {c : Nat} (hc : (isLow c || isDig c) = false) : c ∉ TL.tl z := fun hm => by
  rw [nameOk_sign h hm] at hc
  cases hc
theorem free32 : (isLow 32 || isDig 32) = false := by decide +kernel
theorem free10 : (isLow 10 || isDig 10) = false := by decide +kernel
theorem part_free {d : ItD} (h : ItOk d) {c : Nat} (hc : c = 32 ∨ c = 10) {p : Str} (hp : p ∈ partsI d) : c ∉ TL.tl p := by
  have hn : ∀ z, nameOk z = true → c ∉ TL.tl z := fun z hz => nameOk_free hz (by
    rcases hc with rfl | rfl
    · exact free32
    · exact free10)
  have h1 : c ∉ TL.tl ("pipe" : Str) := by
    rcases hc with rfl | rfl <;> decide +kernel
  have h2 : c ∉ TL.tl ("meter" : Str) := by
    rcases hc with rfl | rfl <;> decide +kernel
  have h3 : c ∉ TL.tl ("sealed" : Str) := by
    rcases hc with rfl | rfl <;> decide +kernel
  cases d with
  | inl d =>
    obtain ⟨n, a, b⟩ := d
    obtain ⟨k1, k2, k3, _⟩ := h
    simp only [partsI, partsP, List.mem_cons, List.not_mem_nil, or_false] at hp
    rcases hp with rfl | rfl | rfl | rfl
    · exact h1
    · exact hn _ k1
    · exact hn _ k2
    · exact hn _ k3
  | inr d =>
    obtain ⟨n, a, b⟩ := d
    obtain ⟨k1, k2⟩ := h
    cases b with
    | true =>
      simp only [partsI, partsM, if_true, List.mem_cons, List.not_mem_nil, or_false] at hp
      rcases hp with rfl | rfl | rfl | rfl
      · exact h2
      · exact hn _ k1
      · exact hn _ k2
      · exact h3
    | false =>
      simp only [partsI, partsM, if_false, Bool.false_eq_true, List.mem_cons, List.not_mem_nil, or_false] at hp
      rcases hp with rfl | rfl | rfl
      · exact h2
      · exact hn _ k1
      · exact hn _ k2
theorem line_free {d : ItD} (h : ItOk d) : (10 : Nat) ∉ TL.tl (lineI d) := fun hm => by
  have e : TL.tl (lineI d) = TL.joinL (TL.tl SPC) ((partsI d).map TL.tl) := by
    cases d with
    | inl d => exact tl_joinT _ _
    | inr d => exact tl_joinT _ _
  rw [e] at hm
  rcases mem_joinL hm with h1 | ⟨p, hp, h1⟩
  · revert h1
    decide +kernel
  · obtain ⟨z, hz, rfl⟩ := List.mem_map.mp hp
    exact part_free h (.inr rfl) hz h1
theorem line_len {d : ItD} (h : ItOk d) : (lineI d).length ≤ 36 := by
  have hn : ∀ z, nameOk z = true → (TL.tl z).length ≤ 8 := fun z hz => by rw [← TL.len_tl]; exact nameOk_len hz
  rw [TL.len_tl]
  cases d with
  | inl d =>
    obtain ⟨n, a, b⟩ := d
    obtain ⟨k1, k2, k3, _⟩ := h
    show (TL.tl (Txt.join _ _)).length ≤ _
    rw [tl_joinT]
    have e1 : (TL.tl ("pipe" : Str)).length = 4 := by decide +kernel
    refine Nat.le_trans (len_joinL (n := 8) fun p hp => ?_) (by show 4 * (8 + (TL.tl SPC).length) ≤ 36; decide +kernel)
    simp only [partsP, List.map_cons, List.map_nil, List.mem_cons, List.not_mem_nil, or_false] at hp
    rcases hp with rfl | rfl | rfl | rfl
    · omega
    · exact hn _ k1
    · exact hn _ k2
    · exact hn _ k3
  | inr d =>
    obtain ⟨n, a, b⟩ := d
    obtain ⟨k1, k2⟩ := h
    show (TL.tl (Txt.join _ _)).length ≤ _
    rw [tl_joinT]
    have e1 : (TL.tl ("meter" : Str)).length = 5 := by decide +kernel
    have e2 : (TL.tl ("sealed" : Str)).length = 6 := by decide +kernel
    cases b with
    | true =>
      refine Nat.le_trans (len_joinL (n := 8) fun p hp => ?_) (by show 4 * (8 + (TL.tl SPC).length) ≤ 36; decide +kernel)
      simp only [partsM, if_true, List.map_cons, List.map_nil, List.mem_cons, List.not_mem_nil, or_false] at hp
      rcases hp with rfl | rfl | rfl | rfl
      · omega
      · exact hn _ k1
      · exact hn _ k2
      · omega
    | false =>
      refine Nat.le_trans (len_joinL (n := 8) fun p hp => ?_) (by show 3 * (8 + (TL.tl SPC).length) ≤ 36; decide +kernel)
      simp only [partsM, if_false, Bool.false_eq_true, List.map_cons, List.map_nil, List.mem_cons, List.not_mem_nil, or_false] at hp
      rcases hp with rfl | rfl | rfl
      · omega
      · exact hn _ k1
      · exact hn _ k2
theorem split_line {d : ItD} (h : ItOk d) : Txt.split (lineI d) SPC = partsI d := by
  have e : lineI d = Txt.join SPC (partsI d) := by cases d <;> rfl
  rw [e]
  refine TL.split_join (s := 32) (S := []) (by decide +kernel) (by decide +kernel) ?_ fun p hp => part_free h (.inl rfl) hp
  cases d with
  | inl d => simp [partsI, partsP]
  | inr d =>
    show partsM d ≠ []
    unfold partsM
    split <;> simp
def spLine (K : Fg) : Sp := fun vs H Q _ => ∃ v d, vs = [v] ∧ ItOk d ∧ VIt K d v H ∧ ∀ H', Ex H H' → Q (.str (lineI d)) H'
def spItem (K : Fg) : Sp := fun vs H Q _ => ∃ d, vs = [.str (lineI d)] ∧ ItOk d ∧ ∀ v H', Ex H H' → VIt K d v H' → Q v H'
theorem spp_item {K : Fg} {H : Hp} {d : ItD} (h : ItOk d) : SpP (spItem K) [.str (lineI d)] H (VIt K d) := fun H1 e Q q E => ⟨d, rfl, h, q⟩
theorem spv_line {K : Fg} {H : Hp} {d : ItD} {v : V} (h : ItOk d) (hv : VIt K d v H) : SpV (spLine K) [v] H (.str (lineI d)) := fun H1 e Q q E => ⟨v, d, rfl, h, VIt.fz e.fz hv, q⟩

theorem ok_line_of {P : Program} {w : World} {K : Fg} {mg : Str → Option Value} {base : Heap} (T : TX K mg) : CalA P w K mg base 3 (At.a K (.glo "line_of")) (spLine K) [] := by
  obtain ⟨fd, F⟩ := (T.says.def_ 13 (d := d_line_of) rfl)
  refine cal_nox F sc_line_of (fun vs H Q E h => ?_) (fun _ _ _ _ _ _ us hl => match us, hl with | [_], _ => rfl) (fun cdv A outer s H vs Q E hr h => ?_)
  · obtain ⟨v, d, rfl, _⟩ := h
    rfl
  · refine ⟨_, (pss_cons (ps_if (pt_val (pe_callB (id := "isinstance") (call_isClk (K := K)) (by rfl) (T.free 1) (by decide +kernel) (pa_cons (pv 0) (pa_cons (pe_glob (by rfl) (T.glo 17) (rel_ref _)) pa_nil)))) (pss_one (ps_ret (pe_joined (PJ.cons pe_str (PJ.cons (pe_fmt (pe_prp (prp_of (T.cls 11) (T.prp 18) (ok_Pipe_name T)) hr (by decide) (pv 0) rfl)) (PJ.cons pe_str (PJ.cons (pe_fmt (pe_prp (prp_of (T.cls 11) (T.prp 28) (ok_Pipe_start T)) hr (by decide) (pv 0) rfl)) (PJ.cons pe_str (PJ.cons (pe_fmt (pe_prp (prp_of (T.cls 11) (T.prp 29) (ok_Pipe_end T)) hr (by decide) (pv 0) rfl)) PJ.nil))))))))) pss_nil)
      (pss_one (ps_ret (pe_ifExp (pt_val (pe_prp (prp_of (T.cls 13) (T.prp 30) (ok_Meter_sealed T)) hr (by decide) (pv 0) rfl)) (pe_joined (PJ.cons pe_str (PJ.cons (pe_fmt (pe_prp (prp_of (T.cls 13) (T.prp 23) (ok_Meter_name T)) hr (by decide) (pv 0) rfl)) (PJ.cons pe_str (PJ.cons (pe_fmt (pe_prp (prp_of (T.cls 13) (T.prp 24) (ok_Meter_at T)) hr (by decide) (pv 0) rfl)) (PJ.cons pe_str PJ.nil)))))) (pe_joined (PJ.cons pe_str (PJ.cons (pe_fmt (pe_prp (prp_of (T.cls 13) (T.prp 23) (ok_Meter_name T)) hr (by decide) (pv 0) rfl)) (PJ.cons pe_str (PJ.cons (pe_fmt (pe_prp (prp_of (T.cls 13) (T.prp 24) (ok_Meter_at T)) hr (by decide) (pv 0) rfl)) PJ.nil))))))))), ?_⟩
    obtain ⟨v, d, rfl, hd, hv, k⟩ := h
    cases d with
    | inl d =>
      obtain ⟨ok, a, rfl, hI⟩ := hv
      obtain ⟨dx, t, hI3, _⟩ := id hI
      obtain ⟨k1, k2, k3, _⟩ := id ok
      have l1 := nameOk_len k1
      have l2 := nameOk_len k2
      have l3 := nameOk_len k3
      refine q_when (b := true) (et_B (ev_isC (ev_var rfl) ev_c (isC_ins hI3 (T.cls 11) (T.ins 20) (T.kit 21)))) (fun _ H1 e1 => ?_) (fun h => by cases h)
      refine s_ret (D := { nx := _, rt := Q }) (ev_join1 (w := lineI (.inl d)) (ys := ["pipe ", d.1, " ", d.2.1, " ", d.2.2]) (.cons ev_c (.cons (ev_fmt (ev_Pipe_name (ev_var rfl) (hI.fz e1.fz)) (by omega)) (.cons ev_c (.cons (ev_fmt (ev_Pipe_start (ev_var rfl) (hI.fz e1.fz)) (by omega)) (.cons ev_c (.cons (ev_fmt (ev_Pipe_end (ev_var rfl) (hI.fz e1.fz)) (by omega)) .nil)))))) ?_ ?_) fun H2 e2 => k H2 (e1.trans e2)
      · have e0 : ("pipe " : Str).length = 5 := by decide +kernel
        have e9 : (" " : Str).length = 1 := by decide +kernel
        simp only [List.map_cons, List.map_nil, List.sum_cons, List.sum_nil]
        omega
      · show TL.tl (Txt.join _ _) = _
        rw [tl_joinT]
        have e0 : TL.tl ("pipe " : Str) = TL.tl ("pipe" : Str) ++ TL.tl SPC := by decide +kernel
        simp only [partsP, List.map_cons, List.map_nil, TL.joinL, List.flatten_cons, List.flatten_nil, e0, List.append_assoc, List.append_nil]
    | inr d =>
      obtain ⟨ok, a, rfl, hI⟩ := hv
      obtain ⟨dx, t, hI3, _⟩ := id hI
      obtain ⟨k1, k2⟩ := id ok
      have l1 := nameOk_len k1
      have l2 := nameOk_len k2
      refine q_when (b := false) (et_B (ev_isC (ev_var rfl) ev_c (isC_ins hI3 (T.cls 13) (T.ins 26) (T.kit 31)))) (fun h => by cases h) (fun _ H1 e1 => ?_)
      have e0 : ("meter " : Str).length = 6 := by decide +kernel
      have e9 : (" " : Str).length = 1 := by decide +kernel
      have e8 : (" sealed" : Str).length = 7 := by decide +kernel
      have t0 : TL.tl ("meter " : Str) = TL.tl ("meter" : Str) ++ TL.tl SPC := by decide +kernel
      have t1 : TL.tl (" sealed" : Str) = TL.tl SPC ++ TL.tl ("sealed" : Str) := by decide +kernel
      refine s_ret (D := { nx := _, rt := Q }) (ev_if (et_B (ev_Meter_sealed (ev_var rfl) (hI.fz e1.fz))) (fun hs => ?_) fun hs => ?_) fun H2 e2 => k H2 (e1.trans e2)
      · refine ev_join1 (w := lineI (.inr d)) (ys := ["meter ", d.1, " ", d.2.1, " sealed"]) (.cons ev_c (.cons (ev_fmt (ev_Meter_name (ev_var rfl) (hI.fz e1.fz)) (by omega)) (.cons ev_c (.cons (ev_fmt (ev_Meter_at (ev_var rfl) (hI.fz e1.fz)) (by omega)) (.cons ev_c .nil))))) ?_ ?_
        · simp only [List.map_cons, List.map_nil, List.sum_cons, List.sum_nil]
          omega
        · show TL.tl (Txt.join _ _) = _
          rw [tl_joinT]
          simp only [partsM, hs, if_true, List.map_cons, List.map_nil, TL.joinL, List.flatten_cons, List.flatten_nil, t0, t1, List.append_assoc, List.append_nil]
      · refine ev_join1 (w := lineI (.inr d)) (ys := ["meter ", d.1, " ", d.2.1]) (.cons ev_c (.cons (ev_fmt (ev_Meter_name (ev_var rfl) (hI.fz e1.fz)) (by omega)) (.cons ev_c (.cons (ev_fmt (ev_Meter_at (ev_var rfl) (hI.fz e1.fz)) (by omega)) .nil)))) ?_ ?_
        · simp only [List.map_cons, List.map_nil, List.sum_cons, List.sum_nil]
          omega
        · show TL.tl (Txt.join _ _) = _
          rw [tl_joinT]
          simp only [partsM, hs, Bool.false_eq_true, if_false, List.map_cons, List.map_nil, TL.joinL, List.flatten_cons, List.flatten_nil, t0, List.append_assoc, List.append_nil]

theorem evp_Pipe {K : Fg} {σ : L2.St} {H : Hp} {tr : TA} {E : XK} {d : PipeD} (ok : PipeOk d) (h : EvA tr σ H [.str d.1, .str d.2.1, .str d.2.2]) : EvP (tMake (He.ga K "Pipe") (spPipe0 K) [] E tr) σ H (VPipe K d) :=
  evp_make h fun H1 e x dx n1 n2 n3 Q q E => ⟨x, dx, d, rfl, upd_same, ok.1, ok.2.1, ok.2.2.1, ok.2.2.2, fun H' b hI => ⟨rfl, q H' (ex_made n1 n2 b) ⟨ok, x, rfl, hI⟩⟩⟩
theorem evp_Meter {K : Fg} {σ : L2.St} {H : Hp} {tr tk : TA} {E : XK} {d : MetD} (ok : MetOk d) (h : EvA tr σ H [.str d.1, .str d.2.1]) (h2 : EvA tk σ H [.bl d.2.2]) : EvP (tMakeK (He.ga K "Meter") 2 1 (spMet0 K) (fun vs zs => vs ++ zs) E tr tk) σ H (VMet K d) := fun H1 e Q q =>
  h H1 e _ fun H2 e2 => h2 H2 (e.trans e2) _ fun H3 e3 => ⟨rfl, rfl, fun x dx n1 n2 n3 => ⟨x, dx, d, rfl, upd_same, ok.1, ok.2, fun H' b hI => ⟨rfl, q _ H' (e2.trans (e3.trans (ex_made n1 n2 b))) ⟨ok, x, rfl, hI⟩⟩⟩⟩

theorem ok_item_of {P : Program} {w : World} {K : Fg} {mg : Str → Option Value} {base : Heap} (T : TX K mg) : CalA P w K mg base 5 (At.a K (.glo "item_of")) (spItem K) [] := by
  obtain ⟨fd, F⟩ := (T.says.def_ 14 (d := d_item_of) rfl)
  refine cal_nox F sc_item_of (fun vs H Q E h => ?_) (fun _ _ _ _ _ _ us hl => match us, hl with | [_], _ => rfl) (fun cdv A outer s H vs Q E hr h => ?_)
  · obtain ⟨d, rfl, _⟩ := h
    rfl
  · refine ⟨_, (pss_cons (ps_set (i := 1) sc_item_of.nd rfl (by first | exact Or.inl rfl | exact Or.inr rfl) (pe_split (pv 0) pe_str))
      (pss_cons (ps_tryN (pss_cons (ps_if (PW.pt (pw_and (pt_cmpR op_eq (pe_callB (id := "len") (call_len_seqk (K := K)) (by rfl) (T.free 4) (by decide +kernel) (pa_cons (pv 1) pa_nil)) pe_int (nomark _)) (pw_and1 (pt_cmpR op_eq (pe_ix (ix_listk (K := K)) (pv 1) pe_int (fun _ _ => rfl)) pe_str (nomark _))))) (pss_one (ps_ret (pe_mak (mak_of (T.mkr 32) (T.glo 17) (ok_Pipe_init T)) hr (by decide) (by rfl) (pa_cons (pe_ix (ix_listk (K := K)) (pv 1) pe_int (fun _ _ => rfl)) (pa_cons (pe_ix (ix_listk (K := K)) (pv 1) pe_int (fun _ _ => rfl)) (pa_cons (pe_ix (ix_listk (K := K)) (pv 1) pe_int (fun _ _ => rfl)) pa_nil)))))) pss_nil)
      (pss_one (ps_if (PW.pt (pw_and (pt_cmpR (op_in_seqk (K := K)) (pe_callB (id := "len") (call_len_seqk (K := K)) (by rfl) (T.free 4) (by decide +kernel) (pa_cons (pv 1) pa_nil)) (pe_tup (pa_cons pe_int (pa_cons pe_int pa_nil))) (by rfl)) (pw_and1 (pt_cmpR op_eq (pe_ix (ix_listk (K := K)) (pv 1) pe_int (fun _ _ => rfl)) pe_str (nomark _))))) (pss_one (ps_ret (pe_makK (makK_of (T.mkr 33) (T.glo 22) (ok_Meter_init_sealed T)) hr (by decide) (by rfl) (pa_cons (pe_ix (ix_listk (K := K)) (pv 1) pe_int (fun _ _ => rfl)) (pa_cons (pe_ix (ix_listk (K := K)) (pv 1) pe_int (fun _ _ => rfl)) pa_nil)) (pk_cons (pe_cmpR op_eq (pe_callB (id := "len") (call_len_seqk (K := K)) (by rfl) (T.free 4) (by decide +kernel) (pa_cons (pv 1) pa_nil)) pe_int (nomark _)) pk_nil)))) pss_nil))) (fun _ _ h => h))
      (pss_one (ps_ret pe_non)))), ?_⟩
    obtain ⟨d, rfl, hd, k⟩ := h
    have hlen := line_len hd
    have hsp := split_line hd
    have eb : ((" " : Str).length == 0) = false := by decide +kernel
    refine q_asgL (el_split (b := SPC) (ev_var rfl) ev_c eb (by omega)) fun L H1 nL e1 hL => ?_
    rw [hsp] at hL
    cases d with
    | inl d =>
      obtain ⟨n, a, b⟩ := d
      have hL : H1 L = some (.lst [.str "pipe", .str n, .str a, .str b]) := hL
      refine q_when (b := true) (et_and (a := true) (b := true) (et_test (ev_op (ev_cb (ea_cons (ev_var rfl) ea_nil) (rc_lenL (sqL_of hL))) ev_c (rv_eq rfl))) fun _ => et_test (ev_op (ev_op (ev_var rfl) ev_c (rv_ixL (sqL_of hL) (atI_k (k := 0) rfl))) ev_c (rv_eq rfl))) (fun _ H2 e2 => ?_) (fun h => by cases h)
      have hL2 := e2 _ _ hL
      refine s_retP (evp_Pipe (d := (n, a, b)) hd (ea_cons (ev_op (ev_var rfl) ev_c (rv_ixL (sqL_of hL2) (atI_k (k := 1) rfl))) (ea_cons (ev_op (ev_var rfl) ev_c (rv_ixL (sqL_of hL2) (atI_k (k := 2) rfl))) (ea_cons (ev_op (ev_var rfl) ev_c (rv_ixL (sqL_of hL2) (atI_k (k := 3) rfl))) ea_nil)))) fun v H3 e3 hv => ?_
      exact k v H3 (e1.trans (e2.trans e3)) hv
    | inr d =>
      obtain ⟨n, a, b⟩ := d
      cases b with
      | true =>
        have hL : H1 L = some (.lst [.str "meter", .str n, .str a, .str "sealed"]) := hL
        refine q_when (b := false) (et_and (a := true) (b := false) (et_test (ev_op (ev_cb (ea_cons (ev_var rfl) ea_nil) (rc_lenL (sqL_of hL))) ev_c (rv_eq rfl))) fun _ => et_test (ev_op (ev_op (ev_var rfl) ev_c (rv_ixL (sqL_of hL) (atI_k (k := 0) rfl))) ev_c (rv_eq rfl))) (fun h => by cases h) (fun _ H2 e2 => ?_)
        have hL2 := e2 _ _ hL
        refine q_when (b := true) (et_and (a := true) (b := true) (et_test (ev_inU (ev_cb (ea_cons (ev_var rfl) ea_nil) (rc_lenL (sqL_of hL2))) (eu_tup (ea_cons ev_c (ea_cons ev_c ea_nil)) (by decide)) rfl rfl)) fun _ => et_test (ev_op (ev_op (ev_var rfl) ev_c (rv_ixL (sqL_of hL2) (atI_k (k := 0) rfl))) ev_c (rv_eq rfl))) (fun _ H3 e3 => ?_) (fun h => by cases h)
        have hL3 := e3 _ _ hL2
        refine s_retP (evp_Meter (d := (n, a, true)) hd (ea_cons (ev_op (ev_var rfl) ev_c (rv_ixL (sqL_of hL3) (atI_k (k := 1) rfl))) (ea_cons (ev_op (ev_var rfl) ev_c (rv_ixL (sqL_of hL3) (atI_k (k := 2) rfl))) ea_nil)) (ea_cons (ev_op (ev_cb (ea_cons (ev_var rfl) ea_nil) (rc_lenL (sqL_of hL3))) ev_c (rv_eq rfl)) ea_nil)) fun v H4 e4 hv => ?_
        exact k v H4 (((e1.trans e2).trans e3).trans e4) hv
      | false =>
        have hL : H1 L = some (.lst [.str "meter", .str n, .str a]) := hL
        refine q_when (b := false) (et_and (a := false) (b := false) (et_test (ev_op (ev_cb (ea_cons (ev_var rfl) ea_nil) (rc_lenL (sqL_of hL))) ev_c (rv_eq rfl))) fun h => by cases h) (fun h => by cases h) (fun _ H2 e2 => ?_)
        have hL2 := e2 _ _ hL
        refine q_when (b := true) (et_and (a := true) (b := true) (et_test (ev_inU (ev_cb (ea_cons (ev_var rfl) ea_nil) (rc_lenL (sqL_of hL2))) (eu_tup (ea_cons ev_c (ea_cons ev_c ea_nil)) (by decide)) rfl rfl)) fun _ => et_test (ev_op (ev_op (ev_var rfl) ev_c (rv_ixL (sqL_of hL2) (atI_k (k := 0) rfl))) ev_c (rv_eq rfl))) (fun _ H3 e3 => ?_) (fun h => by cases h)
        have hL3 := e3 _ _ hL2
        refine s_retP (evp_Meter (d := (n, a, false)) hd (ea_cons (ev_op (ev_var rfl) ev_c (rv_ixL (sqL_of hL3) (atI_k (k := 1) rfl))) (ea_cons (ev_op (ev_var rfl) ev_c (rv_ixL (sqL_of hL3) (atI_k (k := 2) rfl))) ea_nil)) (ea_cons (ev_op (ev_cb (ea_cons (ev_var rfl) ea_nil) (rc_lenL (sqL_of hL3))) ev_c (rv_eq rfl)) ea_nil)) fun v H4 e4 hv => ?_
        exact k v H4 (((e1.trans e2).trans e3).trans e4) hv
end RV

namespace RV
open PySem PySem.Spec PyProof.Rows L2 Evl


/-! ### nets -/
abbrev NetD := List PipeD × List MetD
def itemsOf (d : NetD) : List ItD := d.1.map Sum.inl ++ d.2.map Sum.inr
def textOf (d : NetD) : Str := Txt.join NLN ((itemsOf d).map lineI)
def NetOk (d : NetD) : Prop := PsOk d.1 ∧ MsOk d.1 d.2
def IsNet (K : Fg) (H : Hp) (a : Addr) (d : NetD) : Prop := NetOk d ∧ ∃ dx tp tm xs ys, H a = some (.ins (He.ga K "Net") dx [("joined", .ref tp), ("fitted", .ref tm)]) ∧ H tp = some (.tup xs) ∧ H tm = some (.tup ys) ∧ Pipes K H d.1 xs ∧ Mets K H d.2 ys
theorem IsNet.fz {K : Fg} {H H' : Hp} {a : Addr} {d : NetD} (h : IsNet K H a d) (e : Fz K H H') : IsNet K H' a d := by
  obtain ⟨o, dx, tp, tm, xs, ys, h1, h2, h3, h4, h5⟩ := h
  exact ⟨o, dx, tp, tm, xs, ys, fz_ins e h1 (x := "Net") (by decide) rfl (List.cons_ne_nil _ _), fz_tup e h2, fz_tup e h3, pipes_fz e h4, mets_fz e h5⟩
def VNet (K : Fg) (d : NetD) (v : V) (H : Hp) : Prop := ∃ a, v = .ref a ∧ IsNet K H a d
theorem VNet.fz {K : Fg} {H H' : Hp} {v : V} {d : NetD} (e : Fz K H H') (h : VNet K d v H) : VNet K d v H' := by
  obtain ⟨a, rfl, h⟩ := h
  exact ⟨a, rfl, h.fz e⟩
theorem each_it_ex {K : Fg} {H H' : Hp} (e : Ex H H') {is : List ItD} {xs : List V} (h : Each (VIt K) H is xs) : Each (VIt K) H' is xs := Each.fz (P := VIt K) (fun _ _ _ _ e h => VIt.fz e h) e.fz h
theorem each_app {α : Type} {P : α → V → Hp → Prop} {H : Hp} : ∀ {as bs : List α} {zs : List V}, Each P H (as ++ bs) zs → ∃ xs ys, zs = xs ++ ys ∧ Each P H as xs ∧ Each P H bs ys
  | [], _, zs, h => ⟨[], zs, rfl, .nil, h⟩
  | a :: as, bs, _, .cons p t => by
    obtain ⟨xs, ys, rfl, h1, h2⟩ := each_app t
    exact ⟨_ :: xs, ys, rfl, .cons p h1, h2⟩
theorem each_inl {K : Fg} {H : Hp} : ∀ {ps : List PipeD} {xs : List V}, Each (VIt K) H (ps.map Sum.inl) xs → Pipes K H ps xs
  | [], _, .nil => .nil
  | p :: ps, _, .cons h t => .cons h (each_inl t)
theorem each_inr {K : Fg} {H : Hp} : ∀ {ps : List MetD} {xs : List V}, Each (VIt K) H (ps.map Sum.inr) xs → Mets K H ps xs
  | [], _, .nil => .nil
  | p :: ps, _, .cons h t => .cons h (each_inr t)
theorem inl_each {K : Fg} {H : Hp} : ∀ {ps : List PipeD} {xs : List V}, Pipes K H ps xs → Each (VIt K) H (ps.map Sum.inl) xs
  | [], _, .nil => .nil
  | p :: ps, _, .cons h t => .cons h (inl_each t)
theorem inr_each {K : Fg} {H : Hp} : ∀ {ps : List MetD} {xs : List V}, Mets K H ps xs → Each (VIt K) H (ps.map Sum.inr) xs
  | [], _, .nil => .nil
  | p :: ps, _, .cons h t => .cons h (inr_each t)
theorem each_ok {K : Fg} {H : Hp} : ∀ {is : List ItD} {xs : List V}, Each (VIt K) H is xs → ∀ i ∈ is, ItOk i
  | _, _, .nil, i, hi => by cases hi
  | _, _, .cons (a := .inl d) h t, i, hi => by
    rcases List.mem_cons.mp hi with rfl | hi
    · exact h.1
    · exact each_ok t i hi
  | _, _, .cons (a := .inr d) h t, i, hi => by
    rcases List.mem_cons.mp hi with rfl | hi
    · exact h.1
    · exact each_ok t i hi
theorem filter_inl (d : NetD) : (itemsOf d).filter (fun i => i.isLeft) = d.1.map Sum.inl := by
  unfold itemsOf
  rw [List.filter_append]
  have h1 : ∀ l : List PipeD, (l.map (Sum.inl (β := MetD))).filter (fun i => i.isLeft) = l.map Sum.inl := fun l => List.filter_eq_self.mpr fun x hx => by
    obtain ⟨y, _, rfl⟩ := List.mem_map.mp hx
    rfl
  have h2 : ∀ l : List MetD, (l.map (Sum.inr (α := PipeD))).filter (fun i => i.isLeft) = [] := fun l => List.filter_eq_nil_iff.mpr fun x hx => by
    obtain ⟨y, _, rfl⟩ := List.mem_map.mp hx
    simp
  rw [h1, h2, List.append_nil]
theorem filter_inr (d : NetD) : (itemsOf d).filter (fun i => i.isRight) = d.2.map Sum.inr := by
  unfold itemsOf
  rw [List.filter_append]
  have h1 : ∀ l : List MetD, (l.map (Sum.inr (α := PipeD))).filter (fun i => i.isRight) = l.map Sum.inr := fun l => List.filter_eq_self.mpr fun x hx => by
    obtain ⟨y, _, rfl⟩ := List.mem_map.mp hx
    rfl
  have h2 : ∀ l : List PipeD, (l.map (Sum.inl (β := MetD))).filter (fun i => i.isRight) = [] := fun l => List.filter_eq_nil_iff.mpr fun x hx => by
    obtain ⟨y, _, rfl⟩ := List.mem_map.mp hx
    simp
  rw [h1, h2, List.nil_append]
theorem items_len {d : NetD} (h : NetOk d) : (itemsOf d).length ≤ 24 := by
  have h1 := h.1.2.1
  have h2 := h.2.1
  unfold itemsOf
  rw [List.length_append, List.length_map, List.length_map]
  omega
theorem items_ne {d : NetD} (h : NetOk d) : (itemsOf d).map lineI ≠ [] := fun e => by
  have h1 := List.map_eq_nil_iff.mp e
  unfold itemsOf at h1
  have h2 := List.map_eq_nil_iff.mp (List.append_eq_nil_iff.mp h1).1
  exact h.1.1 h2
def AllOk (d : NetD) : Prop := ∀ i ∈ itemsOf d, ItOk i
theorem split_text {d : NetD} (h : NetOk d) (ok : AllOk d) : Txt.split (textOf d) NLN = (itemsOf d).map lineI := by
  refine TL.split_join (s := 10) (S := []) (by decide +kernel) (by decide +kernel) (items_ne h) fun p hp => ?_
  obtain ⟨i, hi, rfl⟩ := List.mem_map.mp hp
  exact line_free (ok i hi)
theorem text_len {d : NetD} (h : NetOk d) (ok : AllOk d) : (textOf d).length ≤ 1000 := by
  have h1 := items_len h
  unfold textOf
  rw [TL.len_tl, tl_joinT]
  refine Nat.le_trans (len_joinL (n := 36) fun p hp => ?_) ?_
  · obtain ⟨z, hz, rfl⟩ := List.mem_map.mp hp
    obtain ⟨i, hi, rfl⟩ := List.mem_map.mp hz
    rw [← TL.len_tl]
    exact line_len (ok i hi)
  · rw [List.length_map, List.length_map]
    have : (TL.tl NLN).length = 1 := by decide +kernel
    rw [this]
    omega
theorem IsNet.ok {K : Fg} {H : Hp} {a : Addr} {d : NetD} (h : IsNet K H a d) : AllOk d := by
  obtain ⟨o, dx, tp, tm, xs, ys, h1, h2, h3, h4, h5⟩ := h
  exact each_ok (Each.app (inl_each h4) (inr_each h5))
def spNet0 (K : Fg) : Sp := fun vs H Q _ => ∃ p dx tp tm xs ys d, vs = [.ref p, .ref tp, .ref tm] ∧ H p = some (.ins (He.ga K "Net") dx []) ∧ H tp = some (.tup xs) ∧ H tm = some (.tup ys) ∧ NetOk d ∧ Pipes K H d.1 xs ∧ Mets K H d.2 ys ∧
  ∀ H', But [p] H H' → IsNet K H' p d → Q .non H'
def spNetStr (K : Fg) : Sp := fun vs H Q _ => ∃ a d, vs = [.ref a] ∧ IsNet K H a d ∧ ∀ H', Ex H H' → Q (.str (textOf d)) H'
def spNetEq (K : Fg) : Sp := fun vs H Q _ => ∃ a v d b, vs = [.ref a, v] ∧ IsNet K H a d ∧ ((b = false ∧ IsC K H v (He.ga K "Net") false) ∨ ∃ d', VNet K d' v H ∧ b = decide (textOf d = textOf d')) ∧ ∀ H', Ex H H' → Q (.bl b) H'
def netFs (tp tm : Addr) : List (Str × V) := [("joined", .ref tp), ("fitted", .ref tm)]
def spNetPipes (K : Fg) : Sp := fun vs H Q _ => ∃ a dx tp tm, vs = [.ref a] ∧ H a = some (.ins (He.ga K "Net") dx (netFs tp tm)) ∧ ∀ H', Ex H H' → Q (.ref tp) H'
def spNetMeters (K : Fg) : Sp := fun vs H Q _ => ∃ a dx tp tm, vs = [.ref a] ∧ H a = some (.ins (He.ga K "Net") dx (netFs tp tm)) ∧ ∀ H', Ex H H' → Q (.ref tm) H'
def spRead (K : Fg) : Sp := fun vs H Q _ => ∃ d, vs = [.ref (He.ga K "Net"), .str (textOf d)] ∧ NetOk d ∧ AllOk d ∧ ∀ v H', Ex H H' → VNet K d v H' → Q v H'
def spChkNet (K : Fg) : Sp := fun vs H Q _ => ∃ v d, vs = [v] ∧ VNet K d v H ∧ ∀ H', Ex H H' → Q .non H'
theorem but_upd2 {H H1 : Hp} {p : Addr} {o : HO} (b : But [p] H H1) : But [p] H (upd H1 p o) := b.trans but_set

theorem fn_Net_init {P : Program} {w : World} {K : Fg} {mg : Str → Option Value} {base : Heap} (T : TX K mg) {fd : FuncData} (F : FunD K d_Net_init.name d_Net_init.qual d_Net_init.params d_Net_init.body d_Net_init.scope (DX.dv K d_Net_init) (DX.kv K d_Net_init) (At.a K (.met "Net" "__init__")) fd) : FnOk P w K mg base (L2.CX P w) 4 (At.a K (.met "Net" "__init__")) fd ["self", "pipes", "meters"] (spNet0 K) := by
  refine fn_nox F sc_Net_init (fun vs H Q E h => ?_) (fun cdv A outer s H vs Q E hr h => ?_)
  · obtain ⟨p, dx, tp, tm, xs, ys, d, rfl, _⟩ := h
    rfl
  · refine ⟨_, (pss_cons (ps_expr (pe_cal ((ok_check_pipes T).cal (T.glo 34)) hr (by decide) (by rfl) (pa_cons (pv 1) pa_nil)))
      (pss_cons (ps_expr (pe_cal ((ok_check_meters T).cal (T.glo 35)) hr (by decide) (by rfl) (pa_cons (pv 2) (pa_cons (pv 1) pa_nil))))
      (pss_cons (ps_fld (pv 0) (pv 1) rfl)
      (pss_one (ps_fld (pv 0) (pv 2) rfl))))), ?_⟩
    obtain ⟨p, dx, tp, tm, xs, ys, d, rfl, hp, h1, h2, ok, hP, hM, k⟩ := h
    have l1 := Each.len hP
    have hpl := ok.1.2.1
    refine q_drop (ev_call (ea_cons (ev_var rfl) ea_nil) (fun H1 e Q q E => ⟨tp, xs, d.1, rfl, e _ _ h1, pipes_fz e.fz hP, ok.1, q⟩)) fun H1 e1 => ?_
    refine q_drop (ev_call (ea_cons (ev_var rfl) (ea_cons (ev_var rfl) ea_nil)) (fun H2 e2 Q q E => ⟨tm, tp, ys, xs, d.2, d.1, rfl, (e1.trans e2) _ _ h2, (e1.trans e2) _ _ h1, mets_fz (e1.trans e2).fz hM, pipes_fz (e1.trans e2).fz hP, by omega, ok.2, q⟩)) fun H2 e2 => ?_
    have e12 := e1.trans e2
    refine q_fld (ev_var rfl) (ev_var rfl) (e12 _ _ hp) (T.cls 36) (T.noat 37) (by show 0 < 1000; decide) fun H3 e3 => ?_
    refine s_fld (D := { nx := _, rt := Q }) (ev_var rfl) (ev_var rfl) upd_same (T.cls 36) (T.noat 38) (by show 1 < 1000; decide) fun H4 e4 => ?_
    have B : But [p] H (upd H4 p (.ins (He.ga K "Net") dx (putF "fitted" (.ref tm) (putF "joined" (.ref tp) [])))) := (((e12.trans e3).but.trans but_set).same e4).trans but_set
    have F := fz_of (K := K) B hp nfro_new
    refine k _ B ⟨ok, dx, tp, tm, xs, ys, upd_same, fz_tup F h1, fz_tup F h2, pipes_fz F hP, mets_fz F hM⟩

theorem ok_Net_init {P : Program} {w : World} {K : Fg} {mg : Str → Option Value} {base : Heap} (T : TX K mg) : CalA P w K mg base 4 (At.a K (.met "Net" "__init__")) (spNet0 K) [] := by
  obtain ⟨fd, F⟩ := (T.says.def_ 15 (d := d_Net_init) rfl)
  obtain ⟨ds, hv, b⟩ := FunD.binds1 (ps := ["self", "pipes", "meters"]) F 3 1 (List.cons_ne_nil _ _) rfl fun D kV doc pm an cdv ct us its h1 h2 => match us, its, h1, h2 with | [_, _, _], [_], _, _ => ⟨_, rfl, rfl⟩
  cases hv
  exact ⟨fd, _, _, fn_Net_init T F, F.kp, b, .nil⟩
theorem evp_Net {K : Fg} {σ : L2.St} {H : Hp} {tr : TA} {E : XK} {tp tm : Addr} {xs ys : List V} {d : NetD} (ok : NetOk d) (h : EvA tr σ H [.ref tp, .ref tm]) (h1 : H tp = some (.tup xs)) (h2 : H tm = some (.tup ys)) (hP : Pipes K H d.1 xs) (hM : Mets K H d.2 ys) : EvP (tMake (He.ga K "Net") (spNet0 K) [] E tr) σ H (VNet K d) :=
  evp_make h fun H1 e x dx n1 n2 n3 Q q E => by
    have e2 : Ex H (upd (upd H1 dx (.own x)) x (.ins (He.ga K "Net") dx [])) := e.trans ((same_new n2).trans (same_new (by rw [upd_ne n3.symm]; exact n1)))
    exact ⟨x, dx, tp, tm, xs, ys, d, rfl, upd_same, e2 _ _ h1, e2 _ _ h2, ok, pipes_fz e2.fz hP, mets_fz e2.fz hM, fun H' b hI => ⟨rfl, q H' (ex_made n1 n2 b) ⟨x, rfl, hI⟩⟩⟩
theorem spv_netstr {K : Fg} {H : Hp} {a : Addr} {d : NetD} (h : IsNet K H a d) : SpV (spNetStr K) [.ref a] H (.str (textOf d)) := fun H1 e Q q E => ⟨a, d, rfl, h.fz e.fz, q⟩

theorem ok_Net_pipes {P : Program} {w : World} {K : Fg} {mg : Str → Option Value} {base : Heap} (T : TX K mg) : CalA P w K mg base 1 (At.a K (.prp "Net" "pipes")) (spNetPipes K) [] := by
  obtain ⟨fd, F⟩ := (T.says.def_ 16 (d := d_Net_pipes) rfl)
  refine cal_nox F sc_Net_pipes (fun vs H Q E h => ?_) (fun _ _ _ _ _ _ us hl => match us, hl with | [_], _ => rfl) (fun cdv A outer s H vs Q E hr h => ?_)
  · obtain ⟨a, dx, tp, tm, rfl, _⟩ := h
    rfl
  · refine ⟨_, (pss_one (ps_ret (pe_fldk (K := K) (pv 0) rfl))), ?_⟩
    obtain ⟨a, dx, tp, tm, rfl, h, k⟩ := h
    exact s_ret (D := { nx := _, rt := Q }) (ev_fld (ev_var rfl) h (T.cls 36) (T.noat 37) lk1) fun H1 e => k H1 e
theorem ok_Net_meters {P : Program} {w : World} {K : Fg} {mg : Str → Option Value} {base : Heap} (T : TX K mg) : CalA P w K mg base 1 (At.a K (.prp "Net" "meters")) (spNetMeters K) [] := by
  obtain ⟨fd, F⟩ := (T.says.def_ 17 (d := d_Net_meters) rfl)
  refine cal_nox F sc_Net_meters (fun vs H Q E h => ?_) (fun _ _ _ _ _ _ us hl => match us, hl with | [_], _ => rfl) (fun cdv A outer s H vs Q E hr h => ?_)
  · obtain ⟨a, dx, tp, tm, rfl, _⟩ := h
    rfl
  · refine ⟨_, (pss_one (ps_ret (pe_fldk (K := K) (pv 0) rfl))), ?_⟩
    obtain ⟨a, dx, tp, tm, rfl, h, k⟩ := h
    exact s_ret (D := { nx := _, rt := Q }) (ev_fld (ev_var rfl) h (T.cls 36) (T.noat 38) ((lk2 (by decide)).trans lk1)) fun H1 e => k H1 e

theorem ev_netMeters {K : Fg} {σ : L2.St} {H : Hp} {ta : TE} {E : XK} {a dx tp tm : Addr} (h : Ev ta σ H (.ref a)) (hd : H a = some (.ins (He.ga K "Net") dx (netFs tp tm))) : Ev (tProp (He.ga K "Net") (spNetMeters K) [] E ta) σ H (.ref tm) := ev_prp h hd fun H1 e Q q E => ⟨a, dx, tp, tm, rfl, e _ _ hd, q⟩
theorem ev_netPipes {K : Fg} {σ : L2.St} {H : Hp} {ta : TE} {E : XK} {a dx tp tm : Addr} (h : Ev ta σ H (.ref a)) (hd : H a = some (.ins (He.ga K "Net") dx (netFs tp tm))) : Ev (tProp (He.ga K "Net") (spNetPipes K) [] E ta) σ H (.ref tp) := ev_prp h hd fun H1 e Q q E => ⟨a, dx, tp, tm, rfl, e _ _ hd, q⟩

theorem ok_Net___str__ {P : Program} {w : World} {K : Fg} {mg : Str → Option Value} {base : Heap} (T : TX K mg) : CalA P w K mg base 4 (At.a K (.met "Net" "__str__")) (spNetStr K) [] := by
  obtain ⟨fd, F⟩ := (T.says.def_ 18 (d := d_Net___str__) rfl)
  refine cal_nox F sc_Net___str__ (fun vs H Q E h => ?_) (fun _ _ _ _ _ _ us hl => match us, hl with | [_], _ => rfl) (fun cdv A outer s H vs Q E hr h => ?_)
  · obtain ⟨a, d, rfl, _⟩ := h
    rfl
  · refine ⟨_, (pss_one (ps_ret (pe_joink (K := K) pe_str (pe_lc (own := [("item", 1)]) (by rfl) sc_Net___str__.nd (pi_tupk (K := K) (pe_tup (pa_stark (K := K) (pe_fldk (K := K) (pv 0) rfl) (pa_stark (K := K) (pe_fldk (K := K) (pv 0) rfl) pa_nil)))) (blkOk_by (own := [("item", 1)]) (by kernel_rfl)) (fun _ _ _ _ _ => (pg_name (i := 1) sc_Net___str__.nd rfl (by first | exact Or.inl rfl | exact Or.inr rfl))) (fun _ _ _ _ _ => pts_nil) (fun _ _ _ _ _ => (pe_cal ((ok_line_of T).cal (T.glo 39)) hr (by decide) (by rfl) (pa_cons (pv 1) pa_nil))))))), ?_⟩
    obtain ⟨a, d, rfl, h, k⟩ := h
    have hall := h.ok
    obtain ⟨o, dx, tp, tm, xs, ys, h1, h2, h3, h4, h5⟩ := id h
    have hlen := items_len o
    have l1 := Each.len h4
    have l2 := Each.len h5
    have hE := Each.app (inl_each h4) (inr_each h5)
    have hlE : (xs ++ ys).length = (itemsOf d).length := (Each.len hE).symm
    refine s_ret (D := { nx := _, rt := Q }) (ev_joinN (ys := (itemsOf d).map lineI) ev_c ?_ ?_) k
    · rw [List.map_map]
      refine el_lc1 (xs := xs ++ ys) (itemsOf d) _ (evs_tupN (eu_tup (ea_star (ev_fld (ev_var rfl) h1 (T.cls 36) (T.noat 37) lk1) (.inl (sqT_of h2)) (ea_star1 (ev_fld (ev_var rfl) h1 (T.cls 36) (T.noat 38) ((lk2 (by decide)).trans lk1)) (.inl (sqT_of h3)))) (by omega))) hlE (by omega) (fun _ => rfl) fun i x it H2 e2 hx hi => ?_
      have hv := Each.mem hE i it x hi hx
      exact ev_call (ea_cons (ev_var rfl) ea_nil) (spv_line (hall it (List.mem_of_getElem? hi)) (VIt.fz e2.fz hv))
    · have e1 : ("\n" : Str).length = 1 := by decide +kernel
      rw [List.map_map, List.length_map, e1]
      have := sum_le (f := Str.length ∘ lineI) (n := 36) (l := itemsOf d) fun i hi => line_len (hall i hi)
      have hcomp : ((fun x : Str => x.length) ∘ lineI) = Str.length ∘ lineI := rfl
      rw [hcomp]
      omega
theorem ok_Net_read {P : Program} {w : World} {K : Fg} {mg : Str → Option Value} {base : Heap} (T : TX K mg) : CalA P w K mg base 6 (At.a K (.clm "Net" "read")) (spRead K) [] := by
  obtain ⟨fd, F⟩ := (T.says.def_ 19 (d := d_Net_read) rfl)
  refine cal_nox F sc_Net_read (fun vs H Q E h => ?_) (fun _ _ _ _ _ _ us hl => match us, hl with | [_, _], _ => rfl) (fun cdv A outer s H vs Q E hr h => ?_)
  · obtain ⟨d, rfl, _⟩ := h
    rfl
  · refine ⟨_, (pss_cons (ps_if (pt_not (pt_val (pe_callB (id := "isinstance") (call_isBk (K := K)) (by rfl) (T.free 1) (by decide +kernel) (pa_cons (pv 1) (pa_cons (pe_bltn (v := .ty "str") (by rfl) (T.free 3) (by decide +kernel) rfl) pa_nil))))) (pss_one ps_never) pss_nil)
      (pss_cons (ps_setLc (i := 2) (own := [("line", 6)]) (by rfl) sc_Net_read.nd rfl rfl (sw_true rfl rfl rfl (by decide +kernel)) (pi_listk (K := K) (pe_split (pv 1) pe_str)) (blkOk_by (own := [("line", 6)]) (by kernel_rfl)) (fun _ _ _ _ _ => (pg_name (i := 6) sc_Net_read.nd rfl (by first | exact Or.inl rfl | exact Or.inr rfl))) (fun _ _ _ _ _ => pts_nil) (fun _ _ _ _ _ => (pe_cal ((ok_item_of T).cal (T.glo 40)) hr (by decide) (by rfl) (pa_cons (pv 6) pa_nil))))
      (pss_cons (ps_set (i := 3) sc_Net_read.nd rfl (by first | exact Or.inl rfl | exact Or.inr rfl) (pe_callTy (T := "tuple") (call_tuple_ofk (K := K)) (by rfl) (T.free 15) (by decide +kernel) (pa_cons (pe_lc (own := [("item", 7)]) (by rfl) sc_Net_read.nd (pi_listk (K := K) (pv 2)) (blkOk_by (own := [("item", 7)]) (by kernel_rfl)) (fun _ _ _ _ _ => (pg_name (i := 7) sc_Net_read.nd rfl (by first | exact Or.inl rfl | exact Or.inr rfl))) (fun _ _ _ _ _ => pts_one (pt_val (pe_callB (id := "isinstance") (call_isClk (K := K)) (by rfl) (T.free 1) (by decide +kernel) (pa_cons (pv 7) (pa_cons (pe_glob (by rfl) (T.glo 17) (rel_ref _)) pa_nil))))) (fun _ _ _ _ _ => (pv 7))) pa_nil)))
      (pss_cons (ps_set (i := 4) sc_Net_read.nd rfl (by first | exact Or.inl rfl | exact Or.inr rfl) (pe_callTy (T := "tuple") (call_tuple_ofk (K := K)) (by rfl) (T.free 15) (by decide +kernel) (pa_cons (pe_lc (own := [("item", 7)]) (by rfl) sc_Net_read.nd (pi_listk (K := K) (pv 2)) (blkOk_by (own := [("item", 7)]) (by kernel_rfl)) (fun _ _ _ _ _ => (pg_name (i := 7) sc_Net_read.nd rfl (by first | exact Or.inl rfl | exact Or.inr rfl))) (fun _ _ _ _ _ => pts_one (pt_val (pe_callB (id := "isinstance") (call_isClk (K := K)) (by rfl) (T.free 1) (by decide +kernel) (pa_cons (pv 7) (pa_cons (pe_glob (by rfl) (T.glo 22) (rel_ref _)) pa_nil))))) (fun _ _ _ _ _ => (pv 7))) pa_nil)))
      (pss_cons (ps_tryN (pss_one (ps_set (i := 5) sc_Net_read.nd rfl (by first | exact Or.inl rfl | exact Or.inr rfl) (pe_makV (i := 0) (mak_of (T.mkr 41) (T.glo 42) (ok_Net_init T)) hr (by decide) (by rfl) (by first | exact Or.inl rfl | exact Or.inr (Or.inl rfl) | exact Or.inr (Or.inr rfl)) (pa_cons (pv 3) (pa_cons (pv 4) pa_nil))))) (fun _ _ h => h))
      (pss_cons (ps_if (pt_cmpR op_ne (pe_callTy (T := "str") (call_strO (opm_of (T.opm 43) (ok_Net___str__ T)) hr (by decide)) (by rfl) (T.free 3) (by decide +kernel) (pa_cons (pv 5) pa_nil)) (pv 1) (nomark _)) (pss_one ps_never) pss_nil)
      (pss_one (ps_ret (pv 5))))))))), ?_⟩
    obtain ⟨d, rfl, ok, hall, k⟩ := h
    have hlen := items_len ok
    have htl := text_len ok hall
    have hsp := split_text ok hall
    have eb : (("\n" : Str).length == 0) = false := by decide +kernel
    refine q_when (b := false) (et_not (a := true) (et_B (ev_isB (ev_var rfl) ev_c isB_str))) (fun h => by cases h) fun _ H1 e1 => ?_
    refine q_asgP (evp_of_lc (elp_lc1 (itemsOf d) (VIt K) (fun _ _ _ _ e h => VIt.fz e.fz h) (evs_listN (el_splitE hsp (ev_var rfl) ev_c eb (by omega))) (by simp) (by simp; omega) (fun _ => rfl) fun i x it H2 e2 hx hi => ?_)) fun v H2 e2 hv => ?_
    · have ex : x = .str (lineI it) := by
        rw [List.getElem?_map, List.getElem?_map, hi] at hx
        exact (Option.some.inj hx).symm
      subst ex
      exact evp_call (ea_cons (ev_var rfl) ea_nil) (spp_item (hall it (List.mem_of_getElem? hi)))
    obtain ⟨L, xs, rfl, nL, hL, hE⟩ := hv
    have hl := Each.len hE
    have hitem : ∀ (i : Nat) (x : V) (it : ItD) (H3 : Hp), Ex H2 H3 → xs[i]? = some x → (itemsOf d)[i]? = some it → IsC K H3 x (He.ga K "Pipe") it.isLeft ∧ IsC K H3 x (He.ga K "Meter") it.isRight ∧ VIt K it x H3 := fun i x it H3 e3 hx hi => by
      have hv := VIt.fz e3.fz (Each.mem hE i it x hi hx)
      cases it with
      | inl p =>
        obtain ⟨_, a, rfl, dx, t, hI, _⟩ := id hv
        exact ⟨isC_ins hI (T.cls 11) (T.ins 20) (T.kit 21), isC_ins hI (T.cls 11) (T.ins 20) (T.kit 44), hv⟩
      | inr p =>
        obtain ⟨_, a, rfl, dx, t, hI, _⟩ := id hv
        exact ⟨isC_ins hI (T.cls 13) (T.ins 26) (T.kit 31), isC_ins hI (T.cls 13) (T.ins 26) (T.kit 27), hv⟩
    refine q_asgP (evp_tupOf (R := fun ys H => Each (VIt K) H ((itemsOf d).filter fun i => i.isLeft) ys) (fun ys H H' e h => each_it_ex e h) (evp_of_lc (elp_lc (itemsOf d) (fun i => i.isLeft) (VIt K) (fun _ _ _ _ e h => VIt.fz e.fz h) (evs_list (ev_var rfl) (sqL_of hL)) hl.symm (by omega) (fun _ => rfl) fun i x it H3 e3 hx hi => ⟨et_B (ev_isC (ev_var rfl) ev_c (hitem i x it H3 e3 hx hi).1), fun _ H4 e4 Q q => ev_var rfl H4 e4 Q fun H5 e5 => q _ _ e5 (VIt.fz (e4.trans e5).fz (hitem i x it H3 e3 hx hi).2.2)⟩))) fun v H3 e3 hv => ?_
    obtain ⟨tp, us, rfl, nt, ht, hP⟩ := hv
    refine q_asgP (evp_tupOf (R := fun ys H => Each (VIt K) H ((itemsOf d).filter fun i => i.isRight) ys) (fun ys H H' e h => each_it_ex e h) (evp_of_lc (elp_lc (itemsOf d) (fun i => i.isRight) (VIt K) (fun _ _ _ _ e h => VIt.fz e.fz h) (evs_list (ev_var rfl) (sqL_of (e3 _ _ hL))) hl.symm (by omega) (fun _ => rfl) fun i x it H4 e4 hx hi => ⟨et_B (ev_isC (ev_var rfl) ev_c (hitem i x it H4 (e3.trans e4) hx hi).2.1), fun _ H5 e5 Q q => ev_var rfl H5 e5 Q fun H6 e6 => q _ _ e6 (VIt.fz (e5.trans e6).fz (hitem i x it H4 (e3.trans e4) hx hi).2.2)⟩))) fun v H4 e4 hv => ?_
    obtain ⟨tm, ws, rfl, nt2, ht2, hM⟩ := hv
    rw [filter_inl] at hP
    rw [filter_inr] at hM
    refine q_asgP (ev_makV rfl (evp_Net ok (ea_cons (ev_var rfl) (ea_cons (ev_var rfl) ea_nil)) (e4 _ _ ht) ht2 (pipes_fz e4.fz (each_inl hP)) (each_inr hM))) fun v H5 e5 hv => ?_
    obtain ⟨a, rfl, hN⟩ := hv
    obtain ⟨_, dx, _, _, _, _, hI, _⟩ := id hN
    refine q_when (b := false) (et_is (et_test (ev_op (ev_strO (ev_var rfl) hI (spv_netstr hN)) (ev_var rfl) (rv_ne rfl))) (by simp)) (fun h => by cases h) fun _ H6 e6 => ?_
    exact s_ret (D := { nx := _, rt := Q }) (ev_var rfl) fun H7 e7 => k _ H7 (((((e1.trans e2).trans e3).trans e4).trans e5).trans (e6.trans e7)) ⟨a, rfl, hN.fz (e6.trans e7).fz⟩
theorem ok_Net___eq__ {P : Program} {w : World} {K : Fg} {mg : Str → Option Value} {base : Heap} (T : TX K mg) : CalA P w K mg base 6 (At.a K (.met "Net" "__eq__")) (spNetEq K) [] := by
  obtain ⟨fd, F⟩ := (T.says.def_ 20 (d := d_Net___eq__) rfl)
  refine cal_nox F sc_Net___eq__ (fun vs H Q E h => ?_) (fun _ _ _ _ _ _ us hl => match us, hl with | [_, _], _ => rfl) (fun cdv A outer s H vs Q E hr h => ?_)
  · obtain ⟨a, v, d, b, rfl, _⟩ := h
    rfl
  · refine ⟨_, (pss_one (ps_ret (pe_and (pe_callB (id := "isinstance") (call_isClk (K := K)) (by rfl) (T.free 1) (by decide +kernel) (pa_cons (pv 1) (pa_cons (pe_glob (by rfl) (T.glo 42) (rel_ref _)) pa_nil))) (pe_one (pe_cmpR op_eq (pe_callTy (T := "str") (call_strO (opm_of (T.opm 43) (ok_Net___str__ T)) hr (by decide)) (by rfl) (T.free 3) (by decide +kernel) (pa_cons (pv 0) pa_nil)) (pe_callTy (T := "str") (call_strO (opm_of (T.opm 43) (ok_Net___str__ T)) hr (by decide)) (by rfl) (T.free 3) (by decide +kernel) (pa_cons (pv 1) pa_nil)) (nomark _)))))), ?_⟩
    obtain ⟨a, v, d, b, rfl, hN, hb, k⟩ := h
    obtain ⟨_, dx, _, _, _, _, hI, _⟩ := id hN
    refine s_ret (D := { nx := _, rt := Q }) (v := .bl b) ?_ k
    rcases hb with ⟨rfl, hc⟩ | ⟨d', ⟨a', rfl, hN'⟩, rfl⟩
    · exact ev_is (ev_andV (a := false) (b := false) (ev_isC (ev_var rfl) ev_c hc) fun h => by cases h) rfl
    · obtain ⟨_, dx', _, _, _, _, hI', _⟩ := id hN'
      exact ev_is (ev_andV (a := true) (ev_isC (ev_var rfl) ev_c (isC_ins hI' (T.cls 36) (T.ins 45) (T.kit 46))) fun _ => ev_op (ev_strO (ev_var rfl) hI (spv_netstr hN)) (ev_strO (ev_var rfl) hI' (spv_netstr hN')) (rv_eq rfl)) (by
        rw [Bool.true_and]
        congr 1
        exact decide_eq_decide.mpr ⟨fun h => V.str.inj h, fun h => congrArg V.str h⟩)
theorem ok_check_net {P : Program} {w : World} {K : Fg} {mg : Str → Option Value} {base : Heap} (T : TX K mg) : CalA P w K mg base 1 (At.a K (.glo "check_net")) (spChkNet K) [] := by
  obtain ⟨fd, F⟩ := (T.says.def_ 21 (d := d_check_net) rfl)
  refine cal_nox F sc_check_net (fun vs H Q E h => ?_) (fun _ _ _ _ _ _ us hl => match us, hl with | [_], _ => rfl) (fun cdv A outer s H vs Q E hr h => ?_)
  · obtain ⟨v, d, rfl, _⟩ := h
    rfl
  · refine ⟨_, (pss_one (ps_if (pt_not (pt_val (pe_callB (id := "isinstance") (call_isClk (K := K)) (by rfl) (T.free 1) (by decide +kernel) (pa_cons (pv 0) (pa_cons (pe_glob (by rfl) (T.glo 42) (rel_ref _)) pa_nil))))) (pss_one ps_never) pss_nil)), ?_⟩
    obtain ⟨v, d, rfl, ⟨a, rfl, hN⟩, k⟩ := h
    obtain ⟨_, dx, _, _, _, _, hI, _⟩ := id hN
    exact s_when (D := { nx := _, rt := Q }) (b := false) (et_not (a := true) (et_B (ev_isC (ev_var rfl) ev_c (isC_ins hI (T.cls 36) (T.ins 45) (T.kit 46))))) (fun h => by cases h) fun _ H1 e => k H1 e
end RV

namespace RV
open PySem PySem.Spec PyProof.Rows L2 Evl


/-! ### desks -/
def rdV : Option Int → V
  | none => .non
  | some i => .int i
abbrev Rds := List (Option Int)
def rdsV (rs : Rds) : List V := List.map rdV rs
def deskFs (na tn tp : Addr) : List (Str × V) := [("board", .ref na), ("now", .ref tn), ("past", .ref tp)]
def IsDesk (K : Fg) (H : Hp) (a : Addr) (d : NetD) (rs : Rds) (past : List Rds) : Prop := ∃ na dx tn tp xs, H a = some (.ins (He.ga K "Desk") dx (deskFs na tn tp)) ∧ IsNet K H na d ∧ H tn = some (.tup (rdsV rs)) ∧ H tp = some (.tup xs) ∧
  Each (fun r v H => IsT (rdsV r) v H) H past xs ∧ rs.length = d.2.length ∧ past.length ≤ 1000
theorem isT_fz {K : Fg} {H H' : Hp} {xs : List V} {v : V} (e : Fz K H H') (h : IsT xs v H) : IsT xs v H' := by
  obtain ⟨p, h1, h2⟩ := h
  exact ⟨p, h1, fz_tup e h2⟩
theorem IsDesk.at {K : Fg} {H H' : Hp} {a : Addr} {d : NetD} {rs : Rds} {past : List Rds} (h : IsDesk K H a d rs past) (e : Fz K H H') (e2 : ∀ o, H a = some o → H' a = some o) : IsDesk K H' a d rs past := by
  obtain ⟨na, dx, tn, tp, xs, h1, h2, h3, h4, h5, h6⟩ := h
  exact ⟨na, dx, tn, tp, xs, e2 _ h1, h2.fz e, fz_tup e h3, fz_tup e h4, Each.fz (P := fun r v H => IsT (rdsV r) v H) (fun _ _ _ _ e h => isT_fz e h) e h5, h6⟩
theorem IsDesk.ex {K : Fg} {H H' : Hp} {a : Addr} {d : NetD} {rs : Rds} {past : List Rds} (h : IsDesk K H a d rs past) (e : Ex H H') : IsDesk K H' a d rs past := h.at e.fz fun o => e a o
theorem IsDesk.ne {K : Fg} {H : Hp} {a : Addr} {d : NetD} {rs : Rds} {past : List Rds} (h : IsDesk K H a d rs past) {b : Addr} {o : HO} (hb : H b = some o) (n : ∀ C dx fs, o ≠ .ins C dx fs) : a ≠ b := fun z => by
  obtain ⟨na, dx, tn, tp, xs, h1, _⟩ := h
  subst z
  rw [h1] at hb
  exact n _ _ _ (Option.some.inj hb).symm
/-- the seat of a name: the first meter so called -/
def SeatAt (ms : List MetD) (s : Str) (j : Nat) : Prop := ∃ d, ms[j]? = some d ∧ d.1 = s ∧ ∀ i d', i < j → ms[i]? = some d' → d'.1 ≠ s
def spSeat (K : Fg) : Sp := fun vs H Q _ => ∃ t xs ms s j, vs = [.ref t, .str s] ∧ H t = some (.tup xs) ∧ Mets K H ms xs ∧ SeatAt ms s j ∧ ∀ H', Ex H H' → Q (.int (j : Nat)) H'
def spChkRd (K : Fg) : Sp := fun vs H Q _ => ∃ v d r, vs = [v, rdV r] ∧ VMet K d v H ∧ (r = none → d.2.2 = false) ∧ ∀ H', Ex H H' → Q .non H'

theorem ok_seat_of {P : Program} {w : World} {K : Fg} {mg : Str → Option Value} {base : Heap} (T : TX K mg) : CalA P w K mg base 3 (At.a K (.glo "seat_of")) (spSeat K) [] := by
  obtain ⟨fd, F⟩ := (T.says.def_ 22 (d := d_seat_of) rfl)
  refine cal_nox F sc_seat_of (fun vs H Q E h => ?_) (fun _ _ _ _ _ _ us hl => match us, hl with | [_, _], _ => rfl) (fun cdv A outer s H vs Q E hr h => ?_)
  · obtain ⟨t, xs, ms, s, j, rfl, _⟩ := h
    rfl
  · refine ⟨_, (pss_cons (ps_for PassesOwn.never rfl (pi_enumTk (K := K) (by rfl) (T.free 16) (pa_cons (pv 0) pa_nil)) (pg_tupk (K := K) (n := 2) rfl (pgs_cons (pg_name (i := 2) sc_seat_of.nd rfl (by first | exact Or.inl rfl | exact Or.inr rfl)) (pgs_cons (pg_name (i := 3) sc_seat_of.nd rfl (by first | exact Or.inl rfl | exact Or.inr rfl)) pgs_nil)))
      (pss_one (ps_if (PW.pt (pw_and (pt_val (pe_callB (id := "isinstance") (call_isBk (K := K)) (by rfl) (T.free 1) (by decide +kernel) (pa_cons (pv 1) (pa_cons (pe_bltn (v := .ty "str") (by rfl) (T.free 3) (by decide +kernel) rfl) pa_nil)))) (pw_and1 (pt_cmpR op_eq (pe_prp (prp_of (T.cls 13) (T.prp 23) (ok_Meter_name T)) hr (by decide) (pv 3) rfl) (pv 1) (nomark _))))) (pss_one (ps_ret (pv 2))) pss_nil)))
      (pss_one ps_never)), ?_⟩
    obtain ⟨t, xs, ms, sn, j, rfl, ht, hM, ⟨d, hd, hds, hfirst⟩, k⟩ := h
    have hlen := Each.len hM
    have hj : j < ms.length := (List.getElem?_eq_some_iff.mp hd).1
    refine q_forE (a := t) (xs := xs) (ea_cons (ev_var rfl) ea_nil) (sqT_of ht) (fun i σ' H' => (∃ o2 o3, σ' = [some (.ref t), some (.str sn), o2, o3]) ∧ Ex H H' ∧ i ≤ j) (fun H1 e1 => ⟨⟨_, _, rfl⟩, e1, Nat.zero_le _⟩) (fun i σ' H' _ p => sqT_of (p.2.1 _ _ ht)) (fun i x σ' H' hx p tp nT => ?_) fun σ' H' p => absurd p.2.2 (by omega)
    obtain ⟨⟨o2, o3, rfl⟩, ex, hij⟩ := p
    obtain ⟨di, hdi, ok, a, rfl, hI⟩ := Each.at hM hx
    have hT := ex.trans (same_new (o := .tup [.int (i : Nat), .ref a]) nT)
    have hI2 := hI.fz (K := K) hT.fz
    by_cases hi : i = j
    · subst hi
      cases hd.symm.trans hdi
      refine s_when (b := true) (et_is (et_and (et_B (ev_isB (ev_var rfl) ev_c isB_str)) fun _ => et_test (ev_op (ev_Meter_name (ev_var rfl) hI2) (ev_var rfl) (rv_eq rfl))) (by rw [hds]; simp)) (fun _ H2 e2 => ?_) (fun h => by cases h)
      exact s_ret (ev_var rfl) fun H3 e3 => k _ ((hT.trans e2).trans e3)
    · have hne := hfirst i di (by omega) hdi
      refine s_when (b := false) (et_is (et_and (et_B (ev_isB (ev_var rfl) ev_c isB_str)) fun _ => et_test (ev_op (ev_Meter_name (ev_var rfl) hI2) (ev_var rfl) (rv_eq rfl))) (by
        have : ¬ V.str di.1 = .str sn := fun z => hne (V.str.inj z)
        simp [this])) (fun h => by cases h) fun _ H2 e2 => ?_
      exact ⟨⟨_, _, rfl⟩, hT.trans e2, by omega⟩
theorem ok_check_reading {P : Program} {w : World} {K : Fg} {mg : Str → Option Value} {base : Heap} (T : TX K mg) : CalA P w K mg base 3 (At.a K (.glo "check_reading")) (spChkRd K) [] := by
  obtain ⟨fd, F⟩ := (T.says.def_ 23 (d := d_check_reading) rfl)
  refine cal_nox F sc_check_reading (fun vs H Q E h => ?_) (fun _ _ _ _ _ _ us hl => match us, hl with | [_, _], _ => rfl) (fun cdv A outer s H vs Q E hr h => ?_)
  · obtain ⟨v, d, r, rfl, _⟩ := h
    rfl
  · refine ⟨_, (pss_cons (ps_if (PW.pt (pw_and (pt_cmpR op_isN (pv 1) pe_non (nomark _)) (pw_and1 (pt_not (pt_val (pe_prp (prp_of (T.cls 13) (T.prp 30) (ok_Meter_sealed T)) hr (by decide) (pv 0) rfl)))))) (pss_one ps_retN) pss_nil)
      (pss_one (ps_if (pt_not (pt_val (pe_cal ((ok_is_integer T).cal (T.glo 47)) hr (by decide) (by rfl) (pa_cons (pv 1) pa_nil)))) (pss_one ps_never) pss_nil))), ?_⟩
    obtain ⟨v, d, r, rfl, ⟨ok, a, rfl, hI⟩, hr2, k⟩ := h
    cases r with
    | none =>
      have hs := hr2 rfl
      exact q_when (b := true) (et_is (et_and (a := true) (et_test (ev_op (ev_var rfl) ev_c rv_isN)) fun _ => et_not (et_B (ev_Meter_sealed (ev_var rfl) hI))) (by rw [hs]; rfl)) (fun _ H1 e1 => k _ e1) (fun h => by cases h)
    | some i =>
      refine q_when (b := false) (et_and (a := false) (b := false) (et_test (ev_op (ev_var rfl) ev_c rv_isN)) fun h => by cases h) (fun h => by cases h) fun _ H1 e1 => ?_
      exact s_when (D := { nx := _, rt := Q }) (b := false) (et_is (et_not (et_B (ev_call (ea_cons (ev_var rfl) ea_nil) (z := .bl true) (fun H2 e2 Q q E => ⟨.int i, true, false, rfl, isB_int, isB_intb, q H2 (Ex.refl _)⟩)))) rfl) (fun h => by cases h) fun _ H2 e2 => k _ (e1.trans e2)

def rs0 (d : NetD) : Rds := d.2.map fun m => if m.2.2 then some 0 else none
def spDesk0 (K : Fg) : Sp := fun vs H Q _ => ∃ p dx v d, vs = [.ref p, v] ∧ H p = some (.ins (He.ga K "Desk") dx []) ∧ VNet K d v H ∧ ∀ H', But [p] H H' → IsDesk K H' p d (rs0 d) [] → Q .non H'
def spDeskNet (K : Fg) : Sp := fun vs H Q _ => ∃ a dx na tn tp, vs = [.ref a] ∧ H a = some (.ins (He.ga K "Desk") dx (deskFs na tn tp)) ∧ ∀ H', Ex H H' → Q (.ref na) H'
def spDeskRds (K : Fg) : Sp := fun vs H Q _ => ∃ a dx na tn tp, vs = [.ref a] ∧ H a = some (.ins (He.ga K "Desk") dx (deskFs na tn tp)) ∧ ∀ H', Ex H H' → Q (.ref tn) H'
def spDeskChs (K : Fg) : Sp := fun vs H Q _ => ∃ a d rs past, vs = [.ref a] ∧ IsDesk K H a d rs past ∧ ∀ H', Ex H H' → Q (.int (past.length : Nat)) H'
def spDeskGet (K : Fg) : Sp := fun vs H Q _ => ∃ a d rs past s j r, vs = [.ref a, .str s] ∧ IsDesk K H a d rs past ∧ SeatAt d.2 s j ∧ rs[j]? = some r ∧ ∀ H', Ex H H' → Q (rdV r) H'
def spDeskSet (K : Fg) : Sp := fun vs H Q _ => ∃ a d rs past s j r m, vs = [.ref a, .str s, rdV r] ∧ IsDesk K H a d rs past ∧ past.length < 1000 ∧ SeatAt d.2 s j ∧ d.2[j]? = some m ∧ (r = none → m.2.2 = false) ∧ ∀ H', But [a] H H' → IsDesk K H' a d (rs.set j r) (past ++ [rs]) → Q .non H'
/-- the names of the meters that speak -/
def speaking (ms : List MetD) (rs : Rds) : List Str := ((ms.zip rs).filter fun p => p.2.isSome).map fun p => p.1.1
def spDeskIn (K : Fg) : Sp := fun vs H Q _ => ∃ a d rs past x b, vs = [.ref a, x] ∧ IsDesk K H a d rs past ∧ ((∃ s, x = .str s ∧ b = decide (s ∈ speaking d.2 rs)) ∨ (IsB K H x "str" false ∧ b = false)) ∧ ∀ H', Ex H H' → Q (.bl b) H'
def spDeskLen (K : Fg) : Sp := fun vs H Q _ => ∃ a d rs past, vs = [.ref a] ∧ IsDesk K H a d rs past ∧ ∀ H', Ex H H' → Q (.int ((rs.filter Option.isSome).length : Nat)) H'
def spDeskTru : Sp := fun vs H Q _ => ∃ a, vs = [.ref a] ∧ ∀ H', Ex H H' → Q (.bl true) H'
theorem nfro_desk {K : Fg} {na tn tp dx : Addr} (h : ∀ x ∈ frozen, He.ga K "Desk" ≠ He.ga K x) : ¬ Fro K (.ins (He.ga K "Desk") dx (deskFs na tn tp)) := fun z => by
  obtain ⟨x, hx, e⟩ := z.1
  exact h x hx e

theorem fn_Desk_init {P : Program} {w : World} {K : Fg} {mg : Str → Option Value} {base : Heap} (T : TX K mg) {fd : FuncData} (F : FunD K d_Desk_init.name d_Desk_init.qual d_Desk_init.params d_Desk_init.body d_Desk_init.scope (DX.dv K d_Desk_init) (DX.kv K d_Desk_init) (At.a K (.met "Desk" "__init__")) fd) : FnOk P w K mg base (L2.CX P w) 3 (At.a K (.met "Desk" "__init__")) fd ["self", "net"] (spDesk0 K) := by
  refine fn_nox F sc_Desk_init (fun vs H Q E h => ?_) (fun cdv A outer s H vs Q E hr h => ?_)
  · obtain ⟨p, dx, v, d, rfl, _⟩ := h
    rfl
  · refine ⟨_, (pss_cons (ps_expr (pe_cal ((ok_check_net T).cal (T.glo 48)) hr (by decide) (by rfl) (pa_cons (pv 1) pa_nil)))
      (pss_cons (ps_fld (pv 0) (pv 1) rfl)
      (pss_cons (ps_fld (pv 0) (pe_callTy (T := "tuple") (call_tuple_ofk (K := K)) (by rfl) (T.free 15) (by decide +kernel) (pa_cons (pe_lc (own := [("meter", 2)]) (by rfl) sc_Desk_init.nd (pi_tupk (K := K) (pe_prp (prp_of (T.cls 36) (T.prp 49) (ok_Net_meters T)) hr (by decide) (pv 1) rfl)) (blkOk_by (own := [("meter", 2)]) (by kernel_rfl)) (fun _ _ _ _ _ => (pg_name (i := 2) sc_Desk_init.nd rfl (by first | exact Or.inl rfl | exact Or.inr rfl))) (fun _ _ _ _ _ => pts_nil) (fun _ _ _ _ _ => (pe_ifExp (pt_val (pe_prp (prp_of (T.cls 13) (T.prp 30) (ok_Meter_sealed T)) hr (by decide) (pv 2) rfl)) pe_int pe_non))) pa_nil)) rfl)
      (pss_one (ps_fld (pv 0) (pe_tup pa_nil) rfl))))), ?_⟩
    obtain ⟨p, dx, v, d, rfl, hp, hv, k⟩ := h
    refine q_drop (ev_call (ea_cons (ev_var rfl) ea_nil) (fun H1 e Q q E => ⟨v, d, rfl, VNet.fz e.fz hv, q⟩)) fun H1 e1 => ?_
    obtain ⟨na, rfl, hN⟩ := hv
    refine q_fld (ev_var rfl) (ev_var rfl) (e1 _ _ hp) (T.cls 50) (T.noat 51) (by show 0 < 1000; decide) fun H2 e2 => ?_
    have B2 : But [p] H (upd H2 p (.ins (He.ga K "Desk") dx [("board", .ref na)])) := (e1.trans e2).but.trans but_set
    have hN2 := hN.fz (fz_of (K := K) B2 hp nfro_new)
    obtain ⟨ok, dn, tpp, tm, _, ys, hI, _, htm, _, hM⟩ := id hN2
    have hlen := Each.len hM
    have hl12 := ok.2.1
    have hx : rdsV (rs0 d) = d.2.map fun m => if m.2.2 then V.int 0 else .non := by
      unfold rs0 rdsV
      rw [List.map_map]
      refine List.map_congr_left fun m _ => ?_
      show rdV (if m.2.2 = true then some 0 else none) = _
      split <;> rfl
    refine q_fldP (P := IsT (rdsV (rs0 d))) (ev_var rfl) (evp_T (eu_tupOfN (by
      rw [hx]
      refine el_lc1 d.2 _ (evs_tup (ev_netMeters (ev_var rfl) hI) (sqT_of htm)) (by omega) (by omega) (fun _ => rfl) fun i x m H3 e3 hx hm => ?_
      obtain ⟨ok, a, rfl, hMi⟩ := Each.mem hM i m x hm hx
      exact ev_if (et_B (ev_Meter_sealed (ev_var rfl) (hMi.fz e3.fz))) (fun hs => by rw [if_pos hs]; exact ev_c) fun hs => by rw [if_neg (by rw [hs]; decide)]; exact ev_c))) isT_mon upd_same (T.cls 50) (T.noat 52) (by show 1 < 1000; decide) fun tv H3 e3 htv => ?_
    obtain ⟨tn, rfl, htn⟩ := htv
    have htn2 : upd H3 p (.ins (He.ga K "Desk") dx (putF "now" (.ref tn) [("board", .ref na)])) tn = some (.tup (rdsV (rs0 d))) := hp_oth (ne_oo htn (e3 _ _ upd_same) (by intro z; cases z)) htn
    refine s_fldP (D := { nx := _, rt := Q }) (P := IsT []) (ev_var rfl) (evp_T (eu_tup ea_nil (by decide))) isT_mon upd_same (T.cls 50) (T.noat 53) (by show 2 < 1000; decide) fun tv H4 e4 htv => ?_
    obtain ⟨tp, rfl, htp⟩ := htv
    have hpp := e4 _ _ upd_same
    have B : But [p] H (upd H4 p (.ins (He.ga K "Desk") dx (putF "past" (.ref tp) (putF "now" (.ref tn) [("board", .ref na)])))) := (((B2.same e3).trans but_set).same e4).trans but_set
    refine k _ B ⟨na, dx, tn, tp, [], upd_same, hN.fz (fz_of (K := K) B hp nfro_new), hp_oth (ne_oo (e4 _ _ htn2) hpp (by intro z; cases z)) (e4 _ _ htn2), hp_oth (ne_oo htp hpp (by intro z; cases z)) htp, .nil, by simp [rs0], Nat.zero_le _⟩

theorem ok_Desk_init {P : Program} {w : World} {K : Fg} {mg : Str → Option Value} {base : Heap} (T : TX K mg) : CalA P w K mg base 3 (At.a K (.met "Desk" "__init__")) (spDesk0 K) [] := by
  obtain ⟨fd, F⟩ := (T.says.def_ 24 (d := d_Desk_init) rfl)
  exact ⟨fd, ["self", "net"], [], fn_Desk_init T F, F.kp, F.bindsN fun kV doc pm an cdv ct us hl => match us, hl with | [_, _], _ => rfl, .nil⟩
theorem ok_Desk_init_net {P : Program} {w : World} {K : Fg} {mg : Str → Option Value} {base : Heap} (T : TX K mg) : CalK P w K mg base 3 (At.a K (.met "Desk" "__init__")) 1 ["net"] (fun vs zs => vs ++ zs) (spDesk0 K) := by
  obtain ⟨fd, F⟩ := (T.says.def_ 24 (d := d_Desk_init) rfl)
  exact ⟨fd, ["self", "net"], _, fn_Desk_init T F, kbindsN F 1 ["net"] fun kV doc pm an cdv ct us ws h1 h2 => match us, ws, h1, h2 with | [_], [_], _, _ => rfl, F.kp⟩

theorem ok_Desk_net {P : Program} {w : World} {K : Fg} {mg : Str → Option Value} {base : Heap} (T : TX K mg) : CalA P w K mg base 1 (At.a K (.prp "Desk" "net")) (spDeskNet K) [] := by
  obtain ⟨fd, F⟩ := (T.says.def_ 25 (d := d_Desk_net) rfl)
  refine cal_nox F sc_Desk_net (fun vs H Q E h => ?_) (fun _ _ _ _ _ _ us hl => match us, hl with | [_], _ => rfl) (fun cdv A outer s H vs Q E hr h => ?_)
  · obtain ⟨a, dx, na, tn, tp, rfl, _⟩ := h
    rfl
  · refine ⟨_, (pss_one (ps_ret (pe_fldk (K := K) (pv 0) rfl))), ?_⟩
    obtain ⟨a, dx, na, tn, tp, rfl, h, k⟩ := h
    exact s_ret (D := { nx := _, rt := Q }) (ev_fld (ev_var rfl) h (T.cls 50) (T.noat 51) lk1) k
theorem ok_Desk_readings {P : Program} {w : World} {K : Fg} {mg : Str → Option Value} {base : Heap} (T : TX K mg) : CalA P w K mg base 1 (At.a K (.prp "Desk" "readings")) (spDeskRds K) [] := by
  obtain ⟨fd, F⟩ := (T.says.def_ 26 (d := d_Desk_readings) rfl)
  refine cal_nox F sc_Desk_readings (fun vs H Q E h => ?_) (fun _ _ _ _ _ _ us hl => match us, hl with | [_], _ => rfl) (fun cdv A outer s H vs Q E hr h => ?_)
  · obtain ⟨a, dx, na, tn, tp, rfl, _⟩ := h
    rfl
  · refine ⟨_, (pss_one (ps_ret (pe_fldk (K := K) (pv 0) rfl))), ?_⟩
    obtain ⟨a, dx, na, tn, tp, rfl, h, k⟩ := h
    exact s_ret (D := { nx := _, rt := Q }) (ev_fld (ev_var rfl) h (T.cls 50) (T.noat 52) ((lk2 (by decide)).trans lk1)) k
theorem ok_Desk_changes {P : Program} {w : World} {K : Fg} {mg : Str → Option Value} {base : Heap} (T : TX K mg) : CalA P w K mg base 1 (At.a K (.prp "Desk" "changes")) (spDeskChs K) [] := by
  obtain ⟨fd, F⟩ := (T.says.def_ 27 (d := d_Desk_changes) rfl)
  refine cal_nox F sc_Desk_changes (fun vs H Q E h => ?_) (fun _ _ _ _ _ _ us hl => match us, hl with | [_], _ => rfl) (fun cdv A outer s H vs Q E hr h => ?_)
  · obtain ⟨a, d, rs, past, rfl, _⟩ := h
    rfl
  · refine ⟨_, (pss_one (ps_ret (pe_callB (id := "len") (call_len_seqk (K := K)) (by rfl) (T.free 4) (by decide +kernel) (pa_cons (pe_fldk (K := K) (pv 0) rfl) pa_nil)))), ?_⟩
    obtain ⟨a, d, rs, past, rfl, ⟨na, dx, tn, tp, xs, h1, h2, h3, h4, h5, h6⟩, k⟩ := h
    refine s_ret (D := { nx := _, rt := Q }) (ev_cb (ea_cons (ev_fld (ev_var rfl) h1 (T.cls 50) (T.noat 53) ((lk2 (by decide)).trans ((lk2 (by decide)).trans lk1))) ea_nil) (rc_lenT (sqT_of h4))) ?_
    rw [← Each.len h5]
    exact k

theorem spv_seat {K : Fg} {H : Hp} {t : Addr} {xs : List V} {ms : List MetD} {s : Str} {j : Nat} (ht : H t = some (.tup xs)) (hM : Mets K H ms xs) (hs : SeatAt ms s j) : SpV (spSeat K) [.ref t, .str s] H (.int (j : Nat)) := fun H1 e Q q E => ⟨t, xs, ms, s, j, rfl, e _ _ ht, mets_fz e.fz hM, hs, q⟩

theorem ok_Desk___getitem__ {P : Program} {w : World} {K : Fg} {mg : Str → Option Value} {base : Heap} (T : TX K mg) : CalA P w K mg base 4 (At.a K (.met "Desk" "__getitem__")) (spDeskGet K) [] := by
  obtain ⟨fd, F⟩ := (T.says.def_ 28 (d := d_Desk___getitem__) rfl)
  refine cal_nox F sc_Desk___getitem__ (fun vs H Q E h => ?_) (fun _ _ _ _ _ _ us hl => match us, hl with | [_, _], _ => rfl) (fun cdv A outer s H vs Q E hr h => ?_)
  · obtain ⟨a, d, rs, past, s, j, r, rfl, _⟩ := h
    rfl
  · refine ⟨_, (pss_one (ps_ret (pe_ix (ix_tupk (K := K)) (pe_fldk (K := K) (pv 0) rfl) (pe_cal ((ok_seat_of T).cal (T.glo 54)) hr (by decide) (by rfl) (pa_cons (pe_prp (prp_of (T.cls 36) (T.prp 49) (ok_Net_meters T)) hr (by decide) (pe_fldk (K := K) (pv 0) rfl) rfl) (pa_cons (pv 1) pa_nil))) (fun _ _ => rfl)))), ?_⟩
    obtain ⟨a, d, rs, past, s, j, r, rfl, ⟨na, dx, tn, tp, xs, h1, h2, h3, h4, h5, h6⟩, hs, hj, k⟩ := h
    obtain ⟨ok, dn, tpp, tm, _, ys, hI, _, htm, _, hM⟩ := id h2
    refine s_ret (D := { nx := _, rt := Q }) (ev_op (ev_fld (ev_var rfl) h1 (T.cls 50) (T.noat 52) ((lk2 (by decide)).trans lk1)) (ev_call (ea_cons (ev_netMeters (ev_fld (ev_var rfl) h1 (T.cls 50) (T.noat 51) lk1) hI) (ea_cons (ev_var rfl) ea_nil)) (spv_seat htm hM hs)) (rv_ixT (sqT_of h3) (atI_k (k := j) (by unfold rdsV; rw [List.getElem?_map, hj]; rfl)))) k
theorem ok_Desk___setitem__ {P : Program} {w : World} {K : Fg} {mg : Str → Option Value} {base : Heap} (T : TX K mg) : CalA P w K mg base 4 (At.a K (.met "Desk" "__setitem__")) (spDeskSet K) [] := by
  obtain ⟨fd, F⟩ := (T.says.def_ 29 (d := d_Desk___setitem__) rfl)
  refine cal_nox F sc_Desk___setitem__ (fun vs H Q E h => ?_) (fun _ _ _ _ _ _ us hl => match us, hl with | [_, _, _], _ => rfl) (fun cdv A outer s H vs Q E hr h => ?_)
  · obtain ⟨a, d, rs, past, s, j, r, m, rfl, _⟩ := h
    rfl
  · refine ⟨_, (pss_cons (ps_set (i := 3) sc_Desk___setitem__.nd rfl (by first | exact Or.inl rfl | exact Or.inr rfl) (pe_cal ((ok_seat_of T).cal (T.glo 54)) hr (by decide) (by rfl) (pa_cons (pe_prp (prp_of (T.cls 36) (T.prp 49) (ok_Net_meters T)) hr (by decide) (pe_fldk (K := K) (pv 0) rfl) rfl) (pa_cons (pv 1) pa_nil))))
      (pss_cons (ps_expr (pe_cal ((ok_check_reading T).cal (T.glo 55)) hr (by decide) (by rfl) (pa_cons (pe_ix (ix_tupk (K := K)) (pe_prp (prp_of (T.cls 36) (T.prp 49) (ok_Net_meters T)) hr (by decide) (pe_fldk (K := K) (pv 0) rfl) rfl) (pv 3) (fun _ _ => rfl)) (pa_cons (pv 2) pa_nil))))
      (pss_cons (ps_fld (pv 0) (pe_op (op_catAk (K := K)) (pe_fldk (K := K) (pv 0) rfl) (pe_tup (pa_cons (pe_fldk (K := K) (pv 0) rfl) pa_nil))) rfl)
      (pss_one (ps_fld (pv 0) (pe_op (op_catAk (K := K)) (pe_op (op_catAk (K := K)) (pe_slice (sl_tupAk (K := K)) (pe_fldk (K := K) (pv 0) rfl) po_none (po_some (pv 3))) (pe_tup (pa_cons (pv 2) pa_nil))) (pe_slice (sl_tupAk (K := K)) (pe_fldk (K := K) (pv 0) rfl) (po_some (pe_op op_add (pv 3) pe_int)) po_none)) rfl))))), ?_⟩
    obtain ⟨a, d, rs, past, s, j, r, m, rfl, ⟨na, dx, tn, tp, xs, h1, h2, h3, h4, h5, h6, h7⟩, hp, hs, hm, hr2, k⟩ := h
    obtain ⟨ok, dn, tpp, tm, _, ys, hI, _, htm, _, hM⟩ := id h2
    have hlM := Each.len hM
    have hl12 := ok.2.1
    have hjl : j < d.2.length := (List.getElem?_eq_some_iff.mp hm).1
    refine q_asg (ev_call (ea_cons (ev_netMeters (ev_fld (ev_var rfl) h1 (T.cls 50) (T.noat 51) lk1) hI) (ea_cons (ev_var rfl) ea_nil)) (spv_seat htm hM hs)) fun H1 e1 => ?_
    obtain ⟨y, hy, hMj⟩ := Each.at' hM hm
    refine q_drop (ev_call (ea_cons (ev_op (ev_netMeters (ev_fld (ev_var rfl) (e1 _ _ h1) (T.cls 50) (T.noat 51) lk1) (e1 _ _ hI)) (ev_var rfl) (rv_ixT (sqT_of (e1 _ _ htm)) (atI_k hy))) (ea_cons (ev_var rfl) ea_nil)) (fun H2 e2 Q q E => ⟨y, m, r, rfl, VMet.fz (e1.trans e2).fz hMj, hr2, q⟩)) fun H2 e2 => ?_
    have e12 := e1.trans e2
    have F1 : deskFs na tn tp = deskFs na tn tp := rfl
    have hxs := Each.len h5
    refine q_fldP (P := IsT (xs ++ [.ref tn])) (ev_var rfl) (evp_cat (evp_T1 (ev_fld (ev_var rfl) (e12 _ _ h1) (T.cls 50) (T.noat 53) ((lk2 (by decide)).trans ((lk2 (by decide)).trans lk1))) (e12 _ _ h4)) (evp_T (eu_tup (ea_cons (ev_fld (ev_var rfl) (e12 _ _ h1) (T.cls 50) (T.noat 52) ((lk2 (by decide)).trans lk1)) ea_nil) (by show 1 ≤ 100000; decide))) (by show xs.length + 1 ≤ _; omega)) isT_mon (e12 _ _ h1) (T.cls 50) (T.noat 53) (by show 3 < 1000; decide) fun v H3 e3 hv => ?_
    obtain ⟨tp2, rfl, htp2⟩ := hv
    have hfs : putF "past" (.ref tp2) (deskFs na tn tp) = deskFs na tn tp2 := by
      unfold deskFs
      rfl
    rw [hfs]
    have e13 := e12.trans e3
    have ha3 := e13 _ _ h1
    have B3 : But [a] H (upd H3 a (.ins (He.ga K "Desk") dx (deskFs na tn tp2))) := e13.but.trans but_set
    have nD : ¬ Fro K (.ins (He.ga K "Desk") dx (deskFs na tn tp)) := nfro_desk fun x hx => by
      simp only [frozen, List.mem_cons, List.not_mem_nil, or_false] at hx
      rcases hx with rfl | rfl | rfl | rfl | rfl | rfl
      · exact (T.ne 56)
      · exact (T.ne 57)
      · exact (T.ne 58)
      · exact (T.ne 59)
      · exact (T.ne 60)
      · exact (T.ne 61)
    have Z3 := fz_of (K := K) B3 h1 nD
    have h33 := fz_tup Z3 h3
    have hcut1 : cutV (rdsV rs) none (some (j : Int)) = rdsV (rs.take j) := by
      unfold cutV rdsV
      rw [HT.sIx_none, HT.sIx_nat, List.length_map, Nat.min_eq_left (by omega), List.drop_zero, Nat.sub_zero, List.map_take]
    have hcut2 : cutV (rdsV rs) (some ((j : Int) + 1)) none = rdsV (rs.drop (j + 1)) := by
      unfold cutV rdsV
      have : ((j : Int) + 1) = ((j + 1 : Nat) : Int) := by omega
      rw [HT.sIx_none, this, HT.sIx_nat, List.length_map, Nat.min_eq_left (by omega), ← List.map_drop, ← List.map_take]
      congr 1
      exact List.take_of_length_le (by rw [List.length_drop]; omega)
    have hset : (rdsV (rs.take j) ++ [rdV r]) ++ rdsV (rs.drop (j + 1)) = rdsV (rs.set j r) := by
      unfold rdsV
      rw [List.set_eq_take_append_cons_drop, if_pos (by omega), List.map_append, List.map_cons, List.append_assoc]
      rfl
    have hcat := evp_cat (σ := [some (.ref a), some (.str s), some (rdV r), some (.int (j : Nat))]) (H := upd H3 a (.ins (He.ga K "Desk") dx (deskFs na tn tp2))) (evp_cat (K := K) (evp_sl (K := K) (evp_T1 (ev_fld (ev_var (i := 0) rfl) upd_same (T.cls 50) (T.noat 52) ((lk2 (by decide)).trans lk1)) h33) eo_none (eo_some (ev_var (i := 3) rfl))) (evp_T (eu_tup (ea_cons (ev_var (i := 2) rfl) ea_nil) (by show 1 ≤ 100000; decide))) (by
      rw [hcut1]
      unfold rdsV
      rw [List.length_map, List.length_take]
      show _ + 1 ≤ _
      omega)) (evp_sl (K := K) (evp_T1 (ev_fld (ev_var (i := 0) rfl) upd_same (T.cls 50) (T.noat 52) ((lk2 (by decide)).trans lk1)) h33) (eo_some (ev_op (ev_var (i := 3) rfl) (ev_c (v := .int 1)) (rv_I0 (g := fun i j => .int (i + j))))) eo_none) (K := K) (by
      rw [hcut1, hcut2]
      unfold rdsV
      rw [List.length_append, List.length_map, List.length_map, List.length_take, List.length_drop]
      show _ + 1 + _ ≤ _
      omega)
    rw [hcut1, hcut2, hset] at hcat
    refine s_fldP (D := { nx := _, rt := Q }) (ev_var rfl) hcat isT_mon upd_same (T.cls 50) (T.noat 52) (by show 3 < 1000; decide) fun v H4 e4 hv => ?_
    obtain ⟨tn2, rfl, htn2⟩ := hv
    have hfs2 : putF "now" (.ref tn2) (deskFs na tn tp2) = deskFs na tn2 tp2 := by
      unfold deskFs
      rfl
    rw [hfs2]
    have hpp := e4 _ _ upd_same
    have B : But [a] H (upd H4 a (.ins (He.ga K "Desk") dx (deskFs na tn2 tp2))) := (B3.same e4).trans but_set
    have Z := fz_of (K := K) B h1 nD
    have htp3 : upd H3 a (.ins (He.ga K "Desk") dx (deskFs na tn tp2)) tp2 = some (.tup (xs ++ [.ref tn])) := hp_oth (ne_oo htp2 ha3 (by intro z; cases z)) htp2
    refine k _ B ⟨na, dx, tn2, tp2, xs ++ [.ref tn], upd_same, h2.fz Z, hp_oth (ne_oo htn2 hpp (by intro z; cases z)) htn2, hp_oth (ne_oo (e4 _ _ htp3) hpp (by intro z; cases z)) (e4 _ _ htp3), Each.snoc ⟨tn, rfl, fz_tup Z h3⟩ (Each.fz (P := fun r v H => IsT (rdsV r) v H) (fun _ _ _ _ e h => isT_fz e h) Z h5), by rw [List.length_set]; exact h6, by rw [List.length_append]; show _ + 1 ≤ _; omega⟩

theorem filter_zip {ms : List MetD} : ∀ {rs : Rds}, rs.length = ms.length → ((ms.zip rs).filter fun p => p.2.isSome).length = (rs.filter Option.isSome).length := by
  induction ms with
  | nil =>
    intro rs h
    cases rs with
    | nil => rfl
    | cons r rs => cases h
  | cons m ms ih =>
    intro rs h
    cases rs with
    | nil => cases h
    | cons r rs =>
      have := ih (rs := rs) (by simpa using h)
      rw [List.zip_cons_cons, List.filter_cons, List.filter_cons]
      show (if r.isSome = true then _ else _ : List _).length = (if r.isSome = true then _ else _ : List _).length
      split
      · rw [List.length_cons, List.length_cons, this]
      · exact this
theorem rdV_non {r : Option Int} : decide (rdV r = .non) = !r.isSome := by
  cases r with
  | none => rfl
  | some i =>
    show decide (V.int i = .non) = false
    exact decide_eq_false fun z => by cases z

theorem ok_Desk___contains__ {P : Program} {w : World} {K : Fg} {mg : Str → Option Value} {base : Heap} (T : TX K mg) : CalA P w K mg base 3 (At.a K (.met "Desk" "__contains__")) (spDeskIn K) [] := by
  obtain ⟨fd, F⟩ := (T.says.def_ 30 (d := d_Desk___contains__) rfl)
  refine cal_nox F sc_Desk___contains__ (fun vs H Q E h => ?_) (fun _ _ _ _ _ _ us hl => match us, hl with | [_, _], _ => rfl) (fun cdv A outer s H vs Q E hr h => ?_)
  · obtain ⟨a, d, rs, past, x, b, rfl, _⟩ := h
    rfl
  · refine ⟨_, (pss_cons (ps_setLc (i := 2) (own := [("meter", 3), ("reading", 4)]) (by rfl) sc_Desk___contains__.nd rfl rfl (sw_true rfl rfl rfl (by decide +kernel)) (pi_zipAk (K := K) (by rfl) (T.free 62) (pa_cons (pe_prp (prp_of (T.cls 36) (T.prp 49) (ok_Net_meters T)) hr (by decide) (pe_fldk (K := K) (pv 0) rfl) rfl) (pa_cons (pe_fldk (K := K) (pv 0) rfl) pa_nil))) (blkOk_by (own := [("meter", 3), ("reading", 4)]) (by kernel_rfl)) (fun _ _ _ _ _ => (pg_tupk (K := K) (n := 2) rfl (pgs_cons (pg_name (i := 3) sc_Desk___contains__.nd rfl (by first | exact Or.inl rfl | exact Or.inr rfl)) (pgs_cons (pg_name (i := 4) sc_Desk___contains__.nd rfl (by first | exact Or.inl rfl | exact Or.inr rfl)) pgs_nil)))) (fun _ _ _ _ _ => pts_one (pt_cmpR op_notN (pv 4) pe_non (nomark _))) (fun _ _ _ _ _ => (pe_prp (prp_of (T.cls 13) (T.prp 23) (ok_Meter_name T)) hr (by decide) (pv 3) rfl)))
      (pss_one (ps_ret (pe_and (pe_callB (id := "isinstance") (call_isBk (K := K)) (by rfl) (T.free 1) (by decide +kernel) (pa_cons (pv 1) (pa_cons (pe_bltn (v := .ty "str") (by rfl) (T.free 3) (by decide +kernel) rfl) pa_nil))) (pe_one (pe_cmpR (op_in_seqk (K := K)) (pv 1) (pv 2) (by rfl))))))), ?_⟩
    obtain ⟨a, d, rs, past, x, b, rfl, ⟨na, dx, tn, tp, xs, h1, h2, h3, h4, h5, h6, h7⟩, hx, k⟩ := h
    obtain ⟨ok, dn, tpp, tm, _, ys, hI, _, htm, _, hM⟩ := id h2
    have hlM := Each.len hM
    have hl12 := ok.2.1
    have hmin : d.2.length = min ys.length (rdsV rs).length := by
      unfold rdsV
      rw [List.length_map]
      omega
    refine q_asgL (xs := (speaking d.2 rs).map V.str) (by
      unfold speaking
      rw [List.map_map]
      refine el_lc2 (d.2.zip rs) (fun p => p.2.isSome) _ (evs2_zipT (ea_cons (ev_netMeters (ev_fld (ev_var rfl) h1 (T.cls 50) (T.noat 51) lk1) hI) (ea_cons (ev_fld (ev_var rfl) h1 (T.cls 50) (T.noat 52) ((lk2 (by decide)).trans lk1)) ea_nil)) (sqT_of htm) (sqT_of h3) hmin) (by rw [List.length_zip]; omega) (by omega) (fun _ _ => rfl) fun i x y p H2 e2 hx hy hp => ?_
      obtain ⟨m, r⟩ := p
      obtain ⟨hm, hr3⟩ := List.getElem?_zip_eq_some.mp hp
      obtain ⟨_, am, rfl, hMi⟩ := Each.mem hM i m x hm hx
      have ey : y = rdV r := by
        unfold rdsV at hy
        rw [List.getElem?_map, hr3] at hy
        exact (Option.some.inj hy).symm
      subst ey
      exact ⟨et_is (et_test (ev_op (ev_var rfl) ev_c rv_notN)) (by rw [rdV_non, Bool.not_not]), fun _ => ev_Meter_name (ev_var rfl) (hMi.fz e2.fz)⟩) fun L H1 nL e1 hL => ?_
    refine s_ret (D := { nx := _, rt := Q }) (v := .bl b) ?_ fun H2 e2 => k _ (e1.trans e2)
    rcases hx with ⟨z, rfl, rfl⟩ | ⟨hb, rfl⟩
    · exact ev_is (ev_andV (a := true) (ev_isB (ev_var rfl) ev_c isB_str) fun _ => ev_op (ev_var rfl) (ev_var rfl) (rv_isL (sqL_of hL) rfl flat_strs)) (by rw [inV_str]; rfl)
    · exact ev_is (ev_andV (a := false) (b := false) (ev_isB (ev_var rfl) ev_c (isB_ex hb e1)) fun h => by cases h) rfl
theorem ok_Desk___len__ {P : Program} {w : World} {K : Fg} {mg : Str → Option Value} {base : Heap} (T : TX K mg) : CalA P w K mg base 1 (At.a K (.met "Desk" "__len__")) (spDeskLen K) [] := by
  obtain ⟨fd, F⟩ := (T.says.def_ 31 (d := d_Desk___len__) rfl)
  refine cal_nox F sc_Desk___len__ (fun vs H Q E h => ?_) (fun _ _ _ _ _ _ us hl => match us, hl with | [_], _ => rfl) (fun cdv A outer s H vs Q E hr h => ?_)
  · obtain ⟨a, d, rs, past, rfl, _⟩ := h
    rfl
  · refine ⟨_, (pss_one (ps_ret (pe_callB (id := "len") (call_len_seqk (K := K)) (by rfl) (T.free 4) (by decide +kernel) (pa_cons (pe_lc (own := [("reading", 1)]) (by rfl) sc_Desk___len__.nd (pi_tupk (K := K) (pe_fldk (K := K) (pv 0) rfl)) (blkOk_by (own := [("reading", 1)]) (by kernel_rfl)) (fun _ _ _ _ _ => (pg_name (i := 1) sc_Desk___len__.nd rfl (by first | exact Or.inl rfl | exact Or.inr rfl))) (fun _ _ _ _ _ => pts_one (pt_cmpR op_notN (pv 1) pe_non (nomark _))) (fun _ _ _ _ _ => (pv 1))) pa_nil)))), ?_⟩
    obtain ⟨a, d, rs, past, rfl, ⟨na, dx, tn, tp, xs, h1, h2, h3, h4, h5, h6, h7⟩, k⟩ := h
    have hl12 := h2.1.2.1
    refine s_ret (D := { nx := _, rt := Q }) (ev_lenNE (el_lc rs Option.isSome rdV (evs_tup (ev_fld (ev_var rfl) h1 (T.cls 50) (T.noat 52) ((lk2 (by decide)).trans lk1)) (sqT_of h3)) (by unfold rdsV; simp) (by unfold rdsV; simp; omega) (fun _ => rfl) fun i x r H2 e2 hx hr3 => ?_) (by rw [List.length_map])) k
    have ey : x = rdV r := by
      unfold rdsV at hx
      rw [List.getElem?_map, hr3] at hx
      exact (Option.some.inj hx).symm
    subst ey
    exact ⟨et_is (et_test (ev_op (ev_var rfl) ev_c rv_notN)) (by rw [rdV_non, Bool.not_not]), fun _ => ev_var rfl⟩
theorem ok_Desk___bool__ {P : Program} {w : World} {K : Fg} {mg : Str → Option Value} {base : Heap} (T : TX K mg) : CalA P w K mg base 1 (At.a K (.met "Desk" "__bool__")) (spDeskTru) [] := by
  obtain ⟨fd, F⟩ := (T.says.def_ 32 (d := d_Desk___bool__) rfl)
  refine cal_nox F sc_Desk___bool__ (fun vs H Q E h => ?_) (fun _ _ _ _ _ _ us hl => match us, hl with | [_], _ => rfl) (fun cdv A outer s H vs Q E hr h => ?_)
  · obtain ⟨a, rfl, _⟩ := h
    rfl
  · refine ⟨_, (pss_one (ps_ret pe_bl)), ?_⟩
    obtain ⟨a, rfl, k⟩ := h
    exact s_ret (D := { nx := _, rt := Q }) ev_c k
end RV

namespace RV
open PySem PySem.Spec PyProof.Rows L2 Evl


/-! ### draws -/
theorem rc_int1 {H : Hp} {i : Int} : RC (fun xs H Q => (∃ i, xs = [.int i] ∧ Q (.int i) H) ∨ ∃ k, xs = [.bl k] ∧ Q (.int (if k then 1 else 0)) H) [.int i] H (.int i) := fun H1 _ _ q => .inl ⟨i, rfl, q H1 (Ex.refl H1)⟩
theorem rc_abs {H : Hp} {i : Int} : RC (fun xs H Q => ∃ i, xs = [.int i] ∧ Q (.int (if i < 0 then -i else i)) H) [.int i] H (.int (if i < 0 then -i else i)) := fun H1 _ _ q => ⟨i, rfl, q H1 (Ex.refl H1)⟩
def Pool (H : Hp) (p : Addr) : Prop := ∃ a b c : Int, H p = some (.lst [.int a, .int b, .int c])
theorem Pool.ex {H H' : Hp} {p : Addr} (h : Pool H p) (e : Ex H H') : Pool H' p := by
  obtain ⟨a, b, c, h⟩ := h
  exact ⟨a, b, c, e _ _ h⟩
def spStart (K : Fg) : Sp := fun vs H Q _ => ∃ (a : Addr) (ns : List Int) (i : Nat), vs = [.ref a, .int (i : Nat)] ∧ SqL K H a (ns.map V.int) ∧ ns.length ≤ 63 ∧ i ≤ 1000 ∧ ∀ r H', Ex H H' → Q (.int r) H'
def spPool : Sp := fun vs H Q _ => ∃ i, vs = [.int i] ∧ ∀ p H', H p = none → Ex H H' → Pool H' p → Q (.ref p) H'
def spDraw : Sp := fun vs H Q _ => ∃ p m, vs = [.ref p, .int m] ∧ Pool H p ∧ 0 < m ∧ m < 1073741824 ∧ ∀ (d : Int) H', 0 ≤ d → d < m → But [p] H H' → Pool H' p → Q (.int d) H'

theorem ok__law_start {P : Program} {w : World} {K : Fg} {mg : Str → Option Value} {base : Heap} (T : TX K mg) : CalA P w K mg base 1 (At.a K (.glo "_law_start")) (spStart K) [] := by
  obtain ⟨fd, F⟩ := (T.says.def_ 33 (d := d__law_start) rfl)
  refine cal_nox F sc__law_start (fun vs H Q E h => ?_) (fun _ _ _ _ _ _ us hl => match us, hl with | [_, _], _ => rfl) (fun cdv A outer s H vs Q E hr h => ?_)
  · obtain ⟨a, ns, i, rfl, _⟩ := h
    rfl
  · refine ⟨_, (pss_cons (ps_if (pt_cmpR op_lt (pv 1) (pe_callB (id := "len") (call_len_seqk (K := K)) (by rfl) (T.free 4) (by decide +kernel) (pa_cons (pv 0) pa_nil)) (nomark _)) (pss_one (ps_ret (pe_ix (ix_listk (K := K)) (pv 0) (pv 1) (fun _ _ => rfl)))) pss_nil)
      (pss_cons (ps_set (i := 2) sc__law_start.nd rfl (by first | exact Or.inl rfl | exact Or.inr rfl) (pe_op op_add (pe_op op_add pe_int (pe_op op_mul (pe_op op_mul pe_int (pv 1)) (pv 1))) (pe_op op_mul pe_int (pv 1))))
      (pss_cons (ps_for PassesOwn.never rfl (pi_listk (K := K) (pe_slice (sl_listk (K := K)) (pv 0) po_none (po_some pe_int))) (pg_name (i := 3) sc__law_start.nd rfl (by first | exact Or.inl rfl | exact Or.inr rfl))
      (pss_one (ps_set (i := 2) sc__law_start.nd rfl (by first | exact Or.inl rfl | exact Or.inr rfl) (pe_op op_mod (pe_callTy (T := "int") call_int1 (by rfl) (T.free 0) (by decide +kernel) (pa_cons (pe_op op_add (pe_op op_mul (pv 2) pe_int) (pv 3)) pa_nil)) pe_int))))
      (pss_one (ps_ret (pv 2)))))), ?_⟩
    obtain ⟨a, ns, i, rfl, hs, hn, hi, k⟩ := h
    refine q_when (b := decide (i < ns.length)) (et_is (et_test (ev_op (ev_var rfl) (ev_cb (ea_cons (ev_var rfl) ea_nil) (rc_lenL hs)) rv_I0)) (by
      rw [List.length_map]
      exact decide_eq_decide.mpr (by omega))) (fun hb H1 e1 => ?_) (fun hb H1 e1 => ?_)
    · have hlt := of_decide_eq_true hb
      exact s_ret (v := .int (ns[i])) (ev_op (ev_var rfl) (ev_var rfl) (rv_ixL (ex_l e1 hs) (atI_k (k := i) (by simp [hlt])))) fun H2 e2 => k _ _ (e1.trans e2)
    · refine q_asg (ev_op (ev_op ev_c (ev_op (ev_op ev_c (ev_var rfl) (rv_I (.inl ⟨by decide, by decide⟩))) (ev_var rfl) (rv_I (.inr ⟨by omega, by omega⟩))) rv_I0) (ev_op ev_c (ev_var rfl) (rv_I (.inl ⟨by decide, by decide⟩))) rv_I0) fun H2 e2 => ?_
      refine q_forNLn (el_sl (lo := none) (hi := some 4) (ev_var rfl) eo_none (eo_some ev_c) (ex_l (e1.trans e2) hs)) (fun p j σ' H' => (∃ r o, σ' = [some (.ref a), some (.int (i : Nat)), some (.int r), o]) ∧ Ex H2 H' ∧ SqL K H' p (cutV (ns.map V.int) none (some 4))) (fun p H3 np e3 hp => ⟨⟨_, _, rfl⟩, e3, sqL_of hp⟩) (fun p j σ' H' _ w => w.2.2) (fun p j x σ' H' hx w => ?_) fun p σ' H' w => ?_
      · obtain ⟨⟨r, o, rfl⟩, ex, hp⟩ := w
        obtain ⟨z, rfl⟩ : ∃ z, x = V.int z := by
          have hm := List.mem_of_getElem? hx
          unfold cutV at hm
          obtain ⟨z, _, rfl⟩ := List.mem_map.mp (List.mem_of_mem_drop (List.mem_of_mem_take hm))
          exact ⟨z, rfl⟩
        exact s_asg (ev_op (ev_cb (ea_cons (ev_op (ev_op (ev_var rfl) ev_c (rv_I (.inr ⟨by decide, by decide⟩))) (ev_var rfl) rv_I0) ea_nil) rc_int1) ev_c (rv_I (by decide))) fun H3 e3 => ⟨⟨_, _, rfl⟩, ex.trans e3, ex_l e3 hp⟩
      · obtain ⟨⟨r, o, rfl⟩, ex, hp⟩ := w
        exact s_ret (D := { nx := _, rt := Q }) (ev_var rfl) fun H3 e3 => k _ _ (((e1.trans e2).trans ex).trans e3)
theorem ok__law_pool {P : Program} {w : World} {K : Fg} {mg : Str → Option Value} {base : Heap} (T : TX K mg) : CalA P w K mg base 1 (At.a K (.glo "_law_pool")) (spPool) [] := by
  obtain ⟨fd, F⟩ := (T.says.def_ 34 (d := d__law_pool) rfl)
  refine cal_nox F sc__law_pool (fun vs H Q E h => ?_) (fun _ _ _ _ _ _ us hl => match us, hl with | [_], _ => rfl) (fun cdv A outer s H vs Q E hr h => ?_)
  · obtain ⟨i, rfl, _⟩ := h
    rfl
  · refine ⟨_, (pss_cons (ps_set (i := 1) sc__law_pool.nd rfl (by first | exact Or.inl rfl | exact Or.inr rfl) (pe_ifExp (PW.pt (pw_or (pt_cmpR op_lt (pv 0) pe_int (nomark _)) (pw_or1 (pt_cmpR op_ge (pv 0) (pe_op op_pow pe_int pe_int) (nomark _))))) (pe_callB (id := "abs") call_abs (by rfl) (T.free 63) (by decide +kernel) (pa_cons (pv 0) pa_nil)) pe_int))
      (pss_one (ps_ret (pe_lst (pa_cons (pe_op op_mod (pe_callTy (T := "int") call_int1 (by rfl) (T.free 0) (by decide +kernel) (pa_cons (pv 0) pa_nil)) pe_int) (pa_cons (pv 1) (pa_cons pe_int pa_nil))))))), ?_⟩
    obtain ⟨i, rfl, k⟩ := h
    have hd : ∃ z, Ev (tIf (tOr (tTest (tOp (rI0 fun i j => .bl (decide (i < j))) (tVar 0) (tC (.int 0)))) (tTest (tOp (rI0 fun i j => .bl (decide (j ≤ i))) (tVar 0) (tOp (rI CPow fun i j => .int (i ^ j.toNat)) (tC (.int 10)) (tC (.int 18)))))) (tCB (fun xs H Q => ∃ i, xs = [.int i] ∧ Q (.int (if i < 0 then -i else i)) H) (tCons (tVar 0) tNil)) (tC (.int 0))) [some (.int i), none] H (.int z) := by
      have ht := et_or (et_test (ev_op (σ := [some (.int i), none]) (H := H) (ev_var (σ := [some (.int i), none]) (i := 0) rfl) (ev_c (v := .int 0)) (rv_I0 (g := fun i j => .bl (decide (i < j)))))) (fun _ => et_test (ev_op (ev_var (σ := [some (.int i), none]) (i := 0) rfl) (ev_op (ev_c (v := .int 10)) (ev_c (v := .int 18)) (rv_I (C := CPow) (g := fun i j => .int (i ^ j.toNat)) ⟨by decide, by decide, by decide⟩)) (rv_I0 (g := fun i j => .bl (decide (j ≤ i))))))
      by_cases hc : (decide (i < 0) || decide ((10 : Int) ^ (18 : Int).toNat ≤ i)) = true
      · exact ⟨_, ev_if ht (fun _ => ev_cb (ea_cons (ev_var rfl) ea_nil) rc_abs) fun h => by rw [hc] at h; cases h⟩
      · exact ⟨_, ev_if ht (fun h => absurd h hc) fun _ => ev_c⟩
    obtain ⟨z, hz⟩ := hd
    refine q_asg hz fun H1 e1 => ?_
    refine s_retL (D := { nx := _, rt := Q }) (el_lst (ea_cons (ev_op (ev_cb (ea_cons (ev_var rfl) ea_nil) rc_int1) ev_c (rv_I (by decide))) (ea_cons (ev_var rfl) (ea_cons ev_c ea_nil))) (by show 3 ≤ 100000; decide)) fun p H2 np e2 hp => k p H2 (fresh_back e1 np) (e1.trans e2) ⟨_, _, _, hp⟩
theorem ok__law_draw {P : Program} {w : World} {K : Fg} {mg : Str → Option Value} {base : Heap} (T : TX K mg) : CalA P w K mg base 1 (At.a K (.glo "_law_draw")) (spDraw) [] := by
  obtain ⟨fd, F⟩ := (T.says.def_ 35 (d := d__law_draw) rfl)
  refine cal_nox F sc__law_draw (fun vs H Q E h => ?_) (fun _ _ _ _ _ _ us hl => match us, hl with | [_, _], _ => rfl) (fun cdv A outer s H vs Q E hr h => ?_)
  · obtain ⟨p, m, rfl, _⟩ := h
    rfl
  · refine ⟨_, (pss_cons (ps_asg (pe_op op_add (pe_ix (ix_listk (K := K)) (pv 0) pe_int (fun _ _ => rfl)) pe_int) (pg_sub (pv 0) pe_int set_list))
      (pss_cons (ps_set (i := 2) sc__law_draw.nd rfl (by first | exact Or.inl rfl | exact Or.inr rfl) (pe_callTy (T := "int") call_int1 (by rfl) (T.free 0) (by decide +kernel) (pa_cons (pe_ix (ix_listk (K := K)) (pv 0) pe_int (fun _ _ => rfl)) pa_nil)))
      (pss_cons (ps_set (i := 3) sc__law_draw.nd rfl (by first | exact Or.inl rfl | exact Or.inr rfl) (pe_op op_add pe_int (pe_op op_mul pe_int (pe_op op_mod (pe_callTy (T := "int") call_int1 (by rfl) (T.free 0) (by decide +kernel) (pa_cons (pv 2) pa_nil)) pe_int))))
      (pss_cons (ps_asg (pe_op op_mod (pe_callTy (T := "int") call_int1 (by rfl) (T.free 0) (by decide +kernel) (pa_cons (pe_op op_add (pe_op op_add (pe_op op_mul (pv 2) (pv 3)) (pe_op op_mul pe_int (pe_ix (ix_listk (K := K)) (pv 0) pe_int (fun _ _ => rfl)))) pe_int) pa_nil)) pe_int) (pg_sub (pv 0) pe_int set_list))
      (pss_cons (ps_if (pt_cmpR op_gt (pe_ix (ix_listk (K := K)) (pv 0) pe_int (fun _ _ => rfl)) pe_int (nomark _)) (pss_cons (ps_asg (pe_callB (id := "divmod") call_divmod (by rfl) (T.free 64) (by decide +kernel) (pa_cons (pe_ix (ix_listk (K := K)) (pv 0) pe_int (fun _ _ => rfl)) (pa_cons (pv 1) pa_nil))) (pg_tupk (K := K) (n := 2) rfl (pgs_cons (pg_sub (pv 0) pe_int set_list) (pgs_cons (pg_name (i := 4) sc__law_draw.nd rfl (by first | exact Or.inl rfl | exact Or.inr rfl)) pgs_nil))))
      (pss_one (ps_ret (pv 4)))) pss_nil)
      (pss_one (ps_ret (pe_op op_mod (pe_callTy (T := "int") call_int1 (by rfl) (T.free 0) (by decide +kernel) (pa_cons (pe_op op_fdiv (pe_ix (ix_listk (K := K)) (pv 0) pe_int (fun _ _ => rfl)) pe_int) pa_nil)) (pv 1))))))))), ?_⟩
    obtain ⟨p, m, rfl, ⟨a, b, c, hp⟩, h0, h1, k⟩ := h
    refine q_setL (xs := [.int a, .int b, .int c]) (j := 2) hp (ev_op (ev_op (ev_var rfl) ev_c (rv_ixL (sqL_of hp) (atI_k (k := 2) rfl))) ev_c rv_I0) (ev_var rfl) ev_c (by show 2 < 3; decide) fun H1 e1 => ?_
    have hp1 : upd H1 p (.lst ([V.int a, .int b, .int c].set 2 (.int (c + 1)))) p = some (.lst [.int a, .int b, .int (c + 1)]) := upd_same
    refine q_asg (ev_cb (ea_cons (ev_op (ev_var rfl) ev_c (rv_ixL (sqL_of hp1) (atI_k (k := 0) rfl))) ea_nil) rc_int1) fun H2 e2 => ?_
    refine q_asg (v := .int (48271 + 2 * (a % 5003))) (ev_op ev_c (ev_op ev_c (ev_op (ev_cb (ea_cons (ev_var rfl) ea_nil) rc_int1) ev_c (rv_I (by decide))) (rv_I (.inl ⟨by decide, by decide⟩))) rv_I0) fun H3 e3 => ?_
    have hp3 := (e2.trans e3) _ _ hp1
    refine q_setL (j := 0) hp3 (ev_op (ev_cb (ea_cons (ev_op (ev_op (ev_op (ev_var rfl) (ev_var rfl) (rv_I (.inr ⟨by omega, by omega⟩))) (ev_op ev_c (ev_op (ev_var rfl) ev_c (rv_ixL (sqL_of hp3) (atI_k (k := 2) rfl))) (rv_I (.inl ⟨by decide, by decide⟩))) rv_I0) ev_c rv_I0) ea_nil) rc_int1) ev_c (rv_I (by decide))) (ev_var rfl) ev_c (by show 0 < 3; decide) fun H4 e4 => ?_
    obtain ⟨a', ha'⟩ : ∃ z, z = (a * (48271 + 2 * (a % 5003)) + 39373 * (c + 1) + 17) % 2147483563 := ⟨_, rfl⟩
    rw [← ha']
    have hp4 : upd H4 p (.lst ([V.int a, .int b, .int (c + 1)].set 0 (.int a'))) p = some (.lst [.int a', .int b, .int (c + 1)]) := upd_same
    have B4 : But [p] H (upd H4 p (.lst ([V.int a, .int b, .int (c + 1)].set 0 (.int a')))) := (((((e1.but.trans but_set).same e2).same e3).same e4)).trans but_set
    refine q_when (b := decide (0 < b)) (et_test (ev_op (ev_op (ev_var rfl) ev_c (rv_ixL (sqL_of hp4) (atI_k (k := 1) rfl))) ev_c rv_I0)) (fun hb H5 e5 => ?_) (fun hb H5 e5 => ?_)
    · have hp5 := e5 _ _ hp4
      refine q_unpack2 (eu_divmod (ea_cons (ev_op (ev_var rfl) ev_c (rv_ixL (sqL_of hp5) (atI_k (k := 1) rfl))) (ea_cons (ev_var rfl) ea_nil)) ⟨h0, h1⟩) fun t H6 nt e6 ht => ?_
      refine g_setL (j := 1) (e6 _ _ hp5) (ev_var rfl) ev_c (by show 1 < 3; decide) fun H7 e7 => ⟨_, _, rfl, rfl, ?_⟩
      refine s_ret (D := { nx := _, rt := Q }) (ev_var rfl) fun H8 e8 => ?_
      have B9 : But [p] H (upd H7 p (.lst ([V.int a', .int b, .int (c + 1)].set 1 (.int (b / m))))) := ((((B4.same e5).same e6).same e7)).trans but_set
      exact k _ _ (Int.emod_nonneg _ (by omega)) (Int.emod_lt_of_pos _ h0) (B9.same e8) ⟨a', b / m, c + 1, e8 _ _ upd_same⟩
    · have hp5 := e5 _ _ hp4
      refine s_ret (D := { nx := _, rt := Q }) (ev_op (ev_cb (ea_cons (ev_op (ev_op (ev_var rfl) ev_c (rv_ixL (sqL_of hp5) (atI_k (k := 0) rfl))) ev_c (rv_I ⟨by decide, by decide⟩)) ea_nil) rc_int1) (ev_var rfl) (rv_I h0)) fun H6 e6 => ?_
      exact k _ _ (Int.emod_nonneg _ (by omega)) (Int.emod_lt_of_pos _ h0) ((B4.same e5).same e6) ⟨_, _, _, e6 _ _ hp5⟩
end RV

namespace RV
open PySem PySem.Spec PyProof.Rows L2 Evl


/-! ### readings that draw -/
def EvD (p : Addr) (te : TE) (σ : L2.St) (H : Hp) (S : V → Prop) : Prop := ∀ H1, Ex H H1 → ∀ Q : VK, (∀ v H2, But [p] H1 H2 → Pool H2 p → S v → Q v H2) → te σ H1 Q
section
variable {K : Fg} {p : Addr} {σ : L2.St} {H : Hp} {ta tb te : TE} {x y z v w : V} {r : R2} {S S' S1 S2 : V → Prop} {D : Ends} {tz tu tw : TS}
theorem EvD.mono {H' : Hp} (e : Ex H H') (h : EvD p te σ H S) : EvD p te σ H' S := fun H1 e1 Q q => h H1 (e.trans e1) Q q
theorem EvD.imp (h : EvD p te σ H S) (i : ∀ v, S v → S' v) : EvD p te σ H S' := fun H1 e Q q => h H1 e Q fun v H2 b hp s => q v H2 b hp (i v s)
def Rng (m : Int) (v : V) : Prop := ∃ d : Int, v = .int d ∧ 0 ≤ d ∧ d < m
theorem evd_draw {E : XK} {m : Int} (hp : Pool H p) (h : Ev ta σ H (.ref p)) (h2 : Ev tb σ H (.int m)) (h0 : 0 < m) (h1 : m < 1073741824) : EvD p (tCall spDraw [] E (tCons ta (tCons tb tNil))) σ H (Rng m) := fun H1 e Q q =>
  h H1 e _ fun H2 e2 => h2 H2 (e.trans e2) _ fun H3 e3 => ⟨p, m, rfl, hp.ex ((e.trans e2).trans e3), h0, h1, fun d H4 k0 k1 b hp' => q _ H4 ((e2.trans e3).butT b) hp' ⟨d, rfl, k0, k1⟩⟩
/-- the second operand draws, the first, both -/
theorem evd_R (ha : Ev ta σ H x) (hb : EvD p tb σ H S) (hr : ∀ y, S y → ∀ H1, But [p] H H1 → ∃ z, RV r x y H1 z ∧ S' z) : EvD p (tOp r ta tb) σ H S' := fun H1 e Q q =>
  ha H1 e _ fun H2 e2 => hb H2 (e.trans e2) _ fun y H3 b hp s => by
    obtain ⟨z, h1, h2⟩ := hr y s H3 ((e.trans e2).butT b)
    exact h1 H3 (Ex.refl _) _ fun H4 e4 => q z H4 (e2.butT (b.same e4)) (hp.ex e4) h2
theorem evd_L (ha : EvD p ta σ H S) (hb : ∀ H1, But [p] H H1 → Ev tb σ H1 y) (hr : ∀ x, S x → ∀ H1, But [p] H H1 → ∃ z, RV r x y H1 z ∧ S' z) : EvD p (tOp r ta tb) σ H S' := fun H1 e Q q =>
  ha H1 e _ fun x H2 b hp s => (hb H2 (e.butT b)) H2 (Ex.refl _) _ fun H3 e3 => by
    obtain ⟨z, h1, h2⟩ := hr x s H3 ((e.butT b).same e3)
    exact h1 H3 (Ex.refl _) _ fun H4 e4 => q z H4 ((b.same e3).same e4) (hp.ex (e3.trans e4)) h2
theorem evd_LL (ha : EvD p ta σ H S1) (hb : ∀ H1, But [p] H H1 → Pool H1 p → EvD p tb σ H1 S2) (hr : ∀ x y, S1 x → S2 y → ∀ H1, But [p] H H1 → ∃ z, RV r x y H1 z ∧ S' z) : EvD p (tOp r ta tb) σ H S' := fun H1 e Q q =>
  ha H1 e _ fun x H2 b hp s => (hb H2 (e.butT b) hp) H2 (Ex.refl _) _ fun y H3 b2 hp2 s2 => by
    obtain ⟨z, h1, h2⟩ := hr x y s s2 H3 ((e.butT b).trans b2)
    exact h1 H3 (Ex.refl _) _ fun H4 e4 => q z H4 ((b.trans b2).same e4) (hp2.ex e4) h2
theorem evd_un {r : V → Hp → VK → Prop} (ha : EvD p ta σ H S) (hr : ∀ x, S x → ∀ H1, ∃ z, RU r x H1 z ∧ S' z) : EvD p (tUn r ta) σ H S' := fun H1 e Q q =>
  ha H1 e _ fun x H2 b hp s => by
    obtain ⟨z, h1, h2⟩ := hr x s H2
    exact h1 H2 (Ex.refl _) _ fun H4 e4 => q z H4 (b.same e4) (hp.ex e4) h2
theorem evd_cb1 {r : List V → Hp → VK → Prop} (ha : EvD p ta σ H S) (hr : ∀ x, S x → ∀ H1, ∃ z, RC r [x] H1 z ∧ S' z) : EvD p (tCB r (tCons ta tNil)) σ H S' := fun H1 e Q q =>
  ha H1 e _ fun x H2 b hp s => by
    obtain ⟨z, h1, h2⟩ := hr x s H2
    exact h1 H2 (Ex.refl _) _ fun H4 e4 => q z H4 (b.same e4) (hp.ex e4) h2
theorem evd_ev (hp : Pool H p) (h : Ev te σ H v) (s : S v) : EvD p te σ H S := fun H1 e Q q => h H1 e Q fun H2 e2 => q v H2 e2.but (hp.ex (e.trans e2)) s
theorem q_asgD {i : Nat} (h : EvD p te σ H S) (k : ∀ v H1, But [p] H H1 → Pool H1 p → S v → tz D (σ.set i (some v)) H1) : tSeq (tAsg te (gName i)) tz D σ H := h H (Ex.refl H) _ k
theorem s_asgD {i : Nat} (h : EvD p te σ H S) (k : ∀ v H1, But [p] H H1 → Pool H1 p → S v → D.nx (σ.set i (some v)) H1) : tAsg te (gName i) D σ H := h H (Ex.refl H) _ k
theorem s_retD (h : EvD p te σ H S) (k : ∀ v H1, But [p] H H1 → Pool H1 p → S v → D.rt v H1) : tRet te D σ H := h H (Ex.refl H) _ k
def TstD (p : Addr) (t : TT) (σ : L2.St) (H : Hp) : Prop := ∀ H1, Ex H H1 → ∀ Q : Bool → Hp → Prop, (∀ b H2, But [p] H1 H2 → Pool H2 p → Q b H2) → t σ H1 Q
theorem tst_test (h : EvD p te σ H fun v => ∃ b, v = .bl b) : TstD p (tTest te) σ H := fun H1 e Q q => h H1 e _ fun v H2 b hp s => by
  obtain ⟨c, rfl⟩ := s
  exact ⟨c, rfl, q c H2 b hp⟩
theorem q_whenD {t : TT} (h : TstD p t σ H) (h1 : ∀ H1, But [p] H H1 → Pool H1 p → tu { D with nx := tz D } σ H1) (h2 : ∀ H1, But [p] H H1 → Pool H1 p → tz D σ H1) : tSeq (tIfS t tu tNext) tz D σ H := h H (Ex.refl H) _ fun b H1 bt hp => by
  cases b with
  | true => exact h1 H1 bt hp
  | false => exact h2 H1 bt hp
theorem q_par {i j : Nat} {t : TA} (h : EvA t σ H [v, w]) (k : ∀ H1, Ex H H1 → tz D ((σ.set i (some v)).set j (some w)) H1) : tSeq (tPar i j t) tz D σ H := h H (Ex.refl H) _ fun H1 e => ⟨v, w, rfl, k H1 e⟩
theorem q_parL {i j : Nat} {xs : List V} (h : Ev ta σ H v) (hb : EvL tb σ H xs) (k : ∀ l H1, H l = none → Ex H H1 → H1 l = some (.lst xs) → tz D ((σ.set i (some v)).set j (some (.ref l))) H1) : tSeq (tPar i j (tCons ta (tCons tb tNil))) tz D σ H :=
  h H (Ex.refl H) _ fun H1 e => hb H1 e _ fun l H2 nl e2 hl => ⟨_, _, rfl, k l H2 (fresh_back e nl) (e.trans e2) hl⟩
theorem q_parD {i j : Nat} (h : EvD p ta σ H S1) (hb : ∀ H1, But [p] H H1 → Pool H1 p → EvD p tb σ H1 S2) (k : ∀ v w H1, But [p] H H1 → Pool H1 p → S1 v → S2 w → tz D ((σ.set i (some v)).set j (some w)) H1) : tSeq (tPar i j (tCons ta (tCons tb tNil))) tz D σ H :=
  h H (Ex.refl H) _ fun v H1 b hp s => hb H1 b hp H1 (Ex.refl _) _ fun w H2 b2 hp2 s2 => ⟨_, _, rfl, k v w H2 (b.trans b2) hp2 s s2⟩
/-- for i in range(a drawn number) -/
theorem q_forRD {j lo N : Nat} (h : EvD p te σ H fun v => ∃ n : Nat, v = .int (n : Nat) ∧ lo ≤ n ∧ n ≤ N) (hN : N ≤ 100000) (Pv : Nat → Nat → L2.St → Hp → Prop) (h0 : ∀ n H1, But [p] H H1 → Pool H1 p → lo ≤ n → n ≤ N → Pv n 0 σ H1)
    (hs : ∀ n (i : Nat) σ' H', i < n → n ≤ N → Pv n i σ' H' → tu { D with nx := Pv n (i + 1), ct := Pv n (i + 1), bk := tz D } (σ'.set j (some (.int (i : Nat)))) H') (hd : ∀ n σ' H', lo ≤ n → n ≤ N → Pv n n σ' H' → tz D σ' H') : tSeq (tFor (iRng1 (tCons te tNil)) (gName j) tu) tz D σ H :=
  h H (Ex.refl H) _ fun v H1 b hp s => by
    obtain ⟨n, rfl, hlo, hn⟩ := s
    refine ⟨(n : Nat), rfl, by omega, by omega, ?_⟩
    have en : ((n : Nat) : Int).toNat = n := by omega
    rw [en]
    refine for_it walk_range (Pv n) (h0 n H1 b hp hlo hn) (fun _ _ _ _ _ => trivial) (fun i x σ1 H2 H3 hi q y => ?_) fun σ1 H2 q => hd n σ1 H2 hlo hn q
    obtain ⟨rfl, rfl⟩ := y
    have e0 : (0 : Int) + (i : Nat) = (i : Nat) := Int.zero_add _
    show tu { D with nx := Pv n (i + 1), ct := Pv n (i + 1), bk := tz D } (σ1.set j (some (.int ((0 : Int) + (i : Nat))))) H3
    rw [e0]
    exact hs n i σ1 H3 hi hn q
theorem rv_eqb {x y : V} (h : scal x y = true) {H : Hp} : RV rEq x y H (.bl (decide (x = y))) := rv_eq h
end

/-! ### words -/
theorem tl_one (c : Nat) : TL.tl ⟨#[c]⟩ = [c] := rfl
theorem nameL_iff {l : List Nat} : nameL l = true ↔ ∃ c r, l = c :: r ∧ r.length < 8 ∧ isLow c = true ∧ ∀ x ∈ l, (isLow x || isDig x) = true := by
  cases l with
  | nil => exact ⟨fun h => (by cases h), fun ⟨c, r, h, _⟩ => (by cases h)⟩
  | cons c r =>
    show (decide (r.length < 8) && (isLow c && (c :: r).all fun c => isLow c || isDig c)) = true ↔ _
    constructor
    · intro h
      obtain ⟨h1, h2⟩ := Bool.and_eq_true_iff.mp h
      obtain ⟨h2, h3⟩ := Bool.and_eq_true_iff.mp h2
      exact ⟨c, r, rfl, of_decide_eq_true h1, h2, fun x hx => List.all_eq_true.mp h3 x hx⟩
    · rintro ⟨c', r', e, h1, h2, h3⟩
      cases e
      rw [decide_eq_true h1, h2]
      exact List.all_eq_true.mpr h3
theorem name_one {c : Nat} (h : isLow c = true) : nameOk ⟨#[c]⟩ = true := nameL_iff.mpr ⟨c, [], rfl, by decide, h, fun x hx => by
  rw [List.mem_singleton.mp hx, h]
  rfl⟩
theorem name_app {z : Str} {c : Nat} (h : nameOk z = true) (hl : z.length ≤ 7) (hc : (isLow c || isDig c) = true) : nameOk (z ++ ⟨#[c]⟩) = true := by
  obtain ⟨a, r, e, h1, h2, h3⟩ := nameL_iff.mp h
  have e2 : (z ++ (⟨#[c]⟩ : Str)).cps.toList = z.cps.toList ++ [c] := TL.tl_append z ⟨#[c]⟩
  have hl2 : r.length + 1 ≤ 7 := by
    rw [TL.len_tl] at hl
    show _
    have : TL.tl z = a :: r := e
    rw [this] at hl
    exact hl
  refine nameL_iff.mpr ⟨a, r ++ [c], ?_, ?_, h2, ?_⟩
  · rw [e2, e]
    rfl
  · rw [List.length_append]
    show r.length + 1 < 8
    omega
  · intro x hx
    rw [e2] at hx
    rcases List.mem_append.mp hx with hx | hx
    · exact h3 x hx
    · rw [List.mem_singleton.mp hx]
      exact hc
theorem len_one {z : Str} {c : Nat} : (z ++ ⟨#[c]⟩).length = z.length + 1 := by
  rw [len_app]
  rfl
/-- a sign put in behind the first part signs -/
theorem name_ins {z : Str} {c : Nat} {k : Nat} (h : nameOk z = true) (hl : z.length ≤ 6) (hc : (isLow c || isDig c) = true) (hk : 1 ≤ k) :
    nameOk (cutS z none (some (k : Nat)) ++ ⟨#[c]⟩ ++ cutS z (some (k : Nat)) none) = true ∧ (cutS z none (some (k : Nat)) ++ ⟨#[c]⟩ ++ cutS z (some (k : Nat)) none).length = z.length + 1 := by
  obtain ⟨a, r, e, h1, h2, h3⟩ := nameL_iff.mp h
  have e1 : TL.tl (cutS z none (some (k : Nat))) = (a :: r).take k := by
    show (⟨_⟩ : Str).cps.toList = _
    show ((z.cps.toList.drop (HT.sIx z.length 0 none)).take (HT.sIx z.length z.length (some (k : Nat)) - HT.sIx z.length 0 none)).toArray.toList = _
    rw [HT.sIx_none, HT.sIx_nat, List.drop_zero, Nat.sub_zero, e]
    show (a :: r).take (min k z.length) = _
    have : z.length = (a :: r).length := by rw [TL.len_tl]; exact congrArg List.length e
    rw [this, List.take_eq_take_iff]
    omega
  have e2 : TL.tl (cutS z (some (k : Nat)) none) = (a :: r).drop k := by
    show ((z.cps.toList.drop (HT.sIx z.length 0 (some (k : Nat)))).take (HT.sIx z.length z.length none - HT.sIx z.length 0 (some (k : Nat)))).toArray.toList = _
    have hz : z.length = (a :: r).length := by rw [TL.len_tl]; exact congrArg List.length e
    rw [HT.sIx_none, HT.sIx_nat, e, hz]
    show ((a :: r).drop (min k (a :: r).length)).take _ = _
    rw [List.take_of_length_le (by rw [List.length_drop]; exact Nat.le_refl _)]
    by_cases hkl : k ≤ (a :: r).length
    · rw [Nat.min_eq_left hkl]
    · rw [Nat.min_eq_right (by omega), List.drop_of_length_le (Nat.le_refl _), List.drop_of_length_le (by omega)]
  have et : TL.tl (cutS z none (some (k : Nat)) ++ ⟨#[c]⟩ ++ cutS z (some (k : Nat)) none) = (a :: r).take k ++ [c] ++ (a :: r).drop k := by
    rw [TL.tl_append, TL.tl_append, e1, e2, tl_one]
  have hz : z.length = (a :: r).length := by rw [TL.len_tl]; exact congrArg List.length e
  have hlen : ((a :: r).take k ++ [c] ++ (a :: r).drop k).length = z.length + 1 := by
    rw [hz, List.length_append, List.length_append, List.length_take, List.length_drop, List.length_singleton]
    omega
  constructor
  · have ek : k = (k - 1) + 1 := by omega
    refine nameL_iff.mpr ⟨a, r.take (k - 1) ++ [c] ++ (a :: r).drop k, ?_, ?_, h2, ?_⟩
    · refine Eq.trans et ?_
      rw [ek, List.take_succ_cons]
      rfl
    · have : ((a :: r).take k ++ [c] ++ (a :: r).drop k).length = (r.take (k - 1) ++ [c] ++ (a :: r).drop k).length + 1 := by
        rw [ek, List.take_succ_cons]
        rfl
      omega
    · intro x hx
      have hx2 : x ∈ (a :: r).take k ++ [c] ++ (a :: r).drop k := by rw [← et]; exact hx
      rcases List.mem_append.mp hx2 with hx2 | hx2
      · rcases List.mem_append.mp hx2 with hx2 | hx2
        · exact h3 x (by rw [e]; exact List.mem_of_mem_take hx2)
        · rw [List.mem_singleton.mp hx2]
          exact hc
      · exact h3 x (by rw [e]; exact List.mem_of_mem_drop hx2)
  · rw [TL.len_tl, et]
    exact hlen
theorem nodup_le {α : Type} [DecidableEq α] : ∀ {l m : List α}, l.Nodup → (∀ x ∈ l, x ∈ m) → l.length ≤ m.length
  | [], _, _, _ => Nat.zero_le _
  | a :: l, m, hn, hs => by
    obtain ⟨h1, h2⟩ := List.nodup_cons.mp hn
    have ha := hs a (List.mem_cons_self ..)
    have := nodup_le (l := l) (m := m.erase a) h2 fun x hx => (List.mem_erase_of_ne fun z => h1 (by rw [← z]; exact hx)).mpr (hs x (List.mem_cons_of_mem _ hx))
    rw [List.length_erase_of_mem ha] at this
    have hpos := List.length_pos_of_mem ha
    rw [List.length_cons]
    omega
abbrev SGN : Str := "abcdefghijklmnopqrstuvwxyz0123456789"
theorem sgn_ok : ∀ c ∈ TL.tl SGN, (isLow c || isDig c) = true := by decide +kernel
theorem low_ok : ∀ c ∈ TL.tl LOW, isLow c = true := by decide +kernel
theorem sgn_nodup : (TL.tl SGN).Nodup := by decide +kernel
theorem sgn_eq : (LOW ++ DIG : Str) = SGN := by decide +kernel
/-- the words that are tried -/
def freeW (z : Str) : List Str := z :: (TL.tl SGN).map fun c => z ++ ⟨#[c]⟩
theorem free_some (z : Str) (fd : List Str) (h : fd.length ≤ 35) : (freeW z).filter (fun t => !decide (t ∈ fd)) ≠ [] := fun e => by
  have h1 : ∀ t ∈ (TL.tl SGN).map fun c => z ++ (⟨#[c]⟩ : Str), t ∈ fd := fun t ht => by
    have := List.filter_eq_nil_iff.mp e t (List.mem_cons_of_mem _ ht)
    simpa using this
  have h2 : ((TL.tl SGN).map fun c => z ++ (⟨#[c]⟩ : Str)).Nodup := by
    refine List.Pairwise.map _ (fun a b hab => ?_) sgn_nodup
    intro e2
    have := congrArg TL.tl e2
    rw [TL.tl_append, TL.tl_append, tl_one, tl_one] at this
    exact hab (by simpa using this)
  have h3 := nodup_le h2 h1
  rw [List.length_map] at h3
  have h4 : (TL.tl SGN).length = 36 := by decide +kernel
  omega
theorem free_name {z : Str} (h : nameOk z = true) (hl : z.length ≤ 7) : ∀ t ∈ freeW z, nameOk t = true := fun t ht => by
  rcases List.mem_cons.mp ht with rfl | ht
  · exact h
  · obtain ⟨c, hc, rfl⟩ := List.mem_map.mp ht
    exact name_app h hl (sgn_ok c hc)
theorem free_len {z : Str} (hl : z.length ≤ 7) : ∀ t ∈ freeW z, t.length ≤ 8 := fun t ht => by
  rcases List.mem_cons.mp ht with rfl | ht
  · omega
  · obtain ⟨c, hc, rfl⟩ := List.mem_map.mp ht
    rw [len_one]
    omega
def WordOk (n : Nat) (v : V) : Prop := ∃ z, v = .str z ∧ nameOk z = true ∧ z.length ≤ n
def spWord : Sp := fun vs H Q _ => ∃ p, vs = [.ref p] ∧ Pool H p ∧ ∀ z H', nameOk z = true → z.length ≤ 5 → But [p] H H' → Pool H' p → Q (.str z) H'
theorem evd_word {p : Addr} {σ : L2.St} {H : Hp} {ta : TE} {E : XK} (hp : Pool H p) (h : Ev ta σ H (.ref p)) : EvD p (tCall spWord [] E (tCons ta tNil)) σ H (WordOk 5) := fun H1 e Q q =>
  h H1 e _ fun H2 e2 => ⟨p, rfl, hp.ex (e.trans e2), fun z H3 k0 k1 b hp' => q _ H3 (e2.butT b) hp' ⟨z, rfl, k0, k1⟩⟩
def spWords : Sp := fun vs H Q _ => ∃ (p : Addr) (n : Nat), vs = [.ref p, .int (n : Nat)] ∧ n ≤ 30 ∧ Pool H p ∧ ∀ (L : Addr) (l : List Str) H', H L = none → But [p] H H' → Pool H' p → H' L = some (.lst (l.map V.str)) → l.length = n → l.Nodup → (∀ z ∈ l, nameOk z = true) → Q (.ref L) H'

theorem ok__law_word {P : Program} {w : World} {K : Fg} {mg : Str → Option Value} {base : Heap} (T : TX K mg) : CalA P w K mg base 2 (At.a K (.glo "_law_word")) (spWord) [] := by
  obtain ⟨fd, F⟩ := (T.says.def_ 36 (d := d__law_word) rfl)
  refine cal_nox F sc__law_word (fun vs H Q E h => ?_) (fun _ _ _ _ _ _ us hl => match us, hl with | [_], _ => rfl) (fun cdv A outer s H vs Q E hr h => ?_)
  · obtain ⟨p, rfl, _⟩ := h
    rfl
  · refine ⟨_, (pss_cons (ps_asg (pe_tup (pa_cons pe_str (pa_cons pe_str pa_nil))) (pg_tupk (K := K) (n := 2) rfl (pgs_cons (pg_name (i := 1) sc__law_word.nd rfl (by first | exact Or.inl rfl | exact Or.inr rfl)) (pgs_cons (pg_name (i := 2) sc__law_word.nd rfl (by first | exact Or.inl rfl | exact Or.inr rfl)) pgs_nil))))
      (pss_cons (ps_for PassesOwn.never rfl (pi_range1 (by rfl) (T.free 66) (pa_cons (pe_op op_add pe_int (pe_cal ((ok__law_draw T).cal (T.glo 65)) hr (by decide) (by rfl) (pa_cons (pv 0) (pa_cons pe_int pa_nil)))) pa_nil)) (pg_name (i := 3) sc__law_word.nd rfl (by first | exact Or.inl rfl | exact Or.inr rfl))
      (pss_cons (ps_set (i := 4) sc__law_word.nd rfl (by first | exact Or.inl rfl | exact Or.inr rfl) (pe_ifExp (pt_cmpR op_eq (pv 3) pe_int (nomark _)) (pv 1) (pe_op op_add_str (pv 1) pe_str)))
      (pss_one (ps_set (i := 2) sc__law_word.nd rfl (by first | exact Or.inl rfl | exact Or.inr rfl) (pe_op op_add_str (pv 2) (pe_ix ix_str (pv 4) (pe_cal ((ok__law_draw T).cal (T.glo 65)) hr (by decide) (by rfl) (pa_cons (pv 0) (pa_cons (pe_callB (id := "len") call_len_str (by rfl) (T.free 4) (by decide +kernel) (pa_cons (pv 4) pa_nil)) pa_nil))) (fun _ _ => rfl)))))))
      (pss_one (ps_ret (pv 2))))), ?_⟩
    obtain ⟨p, rfl, hp, k⟩ := h
    refine q_unpack2 (eu_tup (ea_cons ev_c (ea_cons ev_c ea_nil)) (by decide)) fun t0 H1 _ e1 _ => ⟨_, _, rfl, rfl, ?_⟩
    have hp1 := hp.ex e1
    refine q_forRD (p := p) (lo := 1) (N := 5) (evd_R ev_c (evd_draw hp1 (ev_var rfl) ev_c (by decide) (by decide)) fun y hy H2 b => ?_) (by decide) (fun n i σ' H' => (∃ z o3 o4, σ' = [some (.ref p), some (.str LOW), some (.str z), o3, o4] ∧ z.length = i ∧ (0 < i → nameOk z = true)) ∧ But [p] H H' ∧ Pool H' p) (fun n H2 b hp2 hlo hn => ⟨⟨_, _, _, rfl, rfl, fun h => absurd h (by decide)⟩, e1.butT b, hp2⟩) (fun n i σ' H' hi hn w => ?_) fun n σ' H' hlo hn w => ?_
    · obtain ⟨d, rfl, d0, d1⟩ := hy
      exact ⟨_, rv_I0, ⟨(1 + d).toNat, congrArg V.int (by omega), by omega, by omega⟩⟩
    · obtain ⟨⟨z, o3, o4, rfl, hz, hok⟩, b, hp'⟩ := w
      have hls : LOW.length = 26 := by decide +kernel
      have hlg : SGN.length = 36 := by decide +kernel
      by_cases h0 : i = 0
      · subst h0
        refine q_asg (v := .str LOW) (ev_if (b := true) (et_test (ev_op (ev_var rfl) ev_c (rv_eq rfl))) (fun _ => ev_var rfl) (fun h => by cases h)) fun H2 e2 => ?_
        refine s_asgD (S := fun v => ∃ c, v = .str (z ++ ⟨#[c]⟩) ∧ isLow c = true) (evd_R (ev_var rfl) (evd_R (S' := fun v => ∃ c, v = .str ⟨#[c]⟩ ∧ isLow c = true) (ev_var rfl) (evd_draw (hp'.ex e2) (ev_var rfl) (ev_cb (ea_cons (ev_var rfl) ea_nil) (rc_lenS (by omega))) (by omega) (by omega)) fun y hy H3 b3 => ?_) fun y hy H3 b3 => ?_) fun v H3 b3 hp3 hv => ?_
        · obtain ⟨d, rfl, d0, d1⟩ := hy
          have hdl : d.toNat < (TL.tl LOW).length := by
            rw [← TL.len_tl]
            omega
          have ed : d = ((d.toNat : Nat) : Int) := by omega
          rw [ed]
          exact ⟨_, rv_ixS (c := (TL.tl LOW)[d.toNat]) (by omega) (atI_k (by simp [hdl])), ⟨_, rfl, low_ok _ (List.getElem_mem hdl)⟩⟩
        · obtain ⟨c, rfl, hc⟩ := hy
          refine ⟨_, rv_adS ?_, ⟨c, rfl, hc⟩⟩
          show z.length + 1 ≤ _
          omega
        · obtain ⟨c, rfl, hc⟩ := hv
          refine ⟨⟨_, _, _, rfl, by rw [len_one, hz], fun _ => ?_⟩, (b.same e2).trans b3, hp3⟩
          have ez : z ++ ⟨#[c]⟩ = ⟨#[c]⟩ := TL.ext_tl (by
            have hz0 : TL.tl z = [] := List.length_eq_zero_iff.mp (by rw [← TL.len_tl, hz])
            rw [TL.tl_append, hz0]
            rfl)
          rw [ez]
          exact name_one hc
      · refine q_asg (v := .str (LOW ++ DIG)) (ev_if (b := false) (et_is (et_test (ev_op (ev_var rfl) ev_c (rv_eq rfl))) (by
          have : ¬ (V.int (i : Nat) = .int 0) := fun z => h0 (by have := V.int.inj z; omega)
          simp [this])) (fun h => by cases h) (fun _ => ev_op (ev_var rfl) ev_c (rv_adS (by decide +kernel)))) fun H2 e2 => ?_
        refine s_asgD (S := fun v => ∃ c, v = .str (z ++ ⟨#[c]⟩) ∧ (isLow c || isDig c) = true) (evd_R (ev_var rfl) (evd_R (S' := fun v => ∃ c, v = .str ⟨#[c]⟩ ∧ (isLow c || isDig c) = true) (ev_var rfl) (evd_draw (hp'.ex e2) (ev_var rfl) (ev_cb (ea_cons (ev_var rfl) ea_nil) (rc_lenS (by rw [sgn_eq]; omega))) (by rw [sgn_eq]; omega) (by rw [sgn_eq]; omega)) fun y hy H3 b3 => ?_) fun y hy H3 b3 => ?_) fun v H3 b3 hp3 hv => ?_
        · obtain ⟨d, rfl, d0, d1⟩ := hy
          rw [sgn_eq] at d1 ⊢
          have hdl : d.toNat < (TL.tl SGN).length := by
            rw [← TL.len_tl]
            omega
          have ed : d = ((d.toNat : Nat) : Int) := by omega
          rw [ed]
          exact ⟨_, rv_ixS (c := (TL.tl SGN)[d.toNat]) (by omega) (atI_k (by simp [hdl])), ⟨_, rfl, sgn_ok _ (List.getElem_mem hdl)⟩⟩
        · obtain ⟨c, rfl, hc⟩ := hy
          refine ⟨_, rv_adS ?_, ⟨c, rfl, hc⟩⟩
          show z.length + 1 ≤ _
          omega
        · obtain ⟨c, rfl, hc⟩ := hv
          exact ⟨⟨_, _, _, rfl, by rw [len_one, hz], fun _ => name_app (hok (by omega)) (by omega) hc⟩, (b.same e2).trans b3, hp3⟩
    · obtain ⟨⟨z, o3, o4, rfl, hz, hok⟩, b, hp'⟩ := w
      exact s_ret (D := { nx := _, rt := Q }) (ev_var rfl) fun H3 e3 => k z H3 (hok (by omega)) (by omega) (b.same e3) (hp'.ex e3)
end RV

namespace RV
open PySem PySem.Spec PyProof.Rows L2 Evl


section
variable {K : Fg} {p : Addr} {σ : L2.St} {H : Hp} {ta tb te : TE} {x y z v w : V} {r : R2} {S S' S1 S2 : V → Prop} {D : Ends} {tz tu tw : TS} {g1 g2 : TG}
theorem q_unpackL {xs : List V} (h : Ev ta σ H v) (hb : EvL tb σ H xs) (k : ∀ l H1, H l = none → Ex H H1 → H1 l = some (.lst xs) → g1 v σ H1 fun σ1 H2 => gCons g2 gNil [.ref l] σ1 H2 fun σ2 H3 => tz D σ2 H3) : tSeq (tAsg (tTup (tCons ta (tCons tb tNil))) (gTup K 2 (gCons g1 (gCons g2 gNil)))) tz D σ H :=
  h H (Ex.refl H) _ fun H1 e1 => hb H1 e1 _ fun l H2 nl e2 hl => ⟨by show 2 ≤ sizeLine; decide, fun t nt => by
    refine ⟨t, [v, .ref l], rfl, sqT_of upd_same, rfl, v, [.ref l], rfl, k l _ (fresh_back e1 nl) ((e1.trans e2).trans (same_new nt)) (hp_old nt hl)⟩⟩
theorem el_catN {xs ys : List V} (ha : EvL ta σ H xs) (hb : EvL tb σ H ys) (hz : xs.length + ys.length ≤ 100000) : EvL (tOp rCat ta tb) σ H (xs ++ ys) := fun H1 e Q q =>
  ha H1 e _ fun l H2 nl e2 hl => hb H2 (e.trans e2) _ fun b H3 nb e3 hb2 => ⟨l, b, xs, ys, rfl, rfl, e3 _ _ hl, hb2, sz2 hz, fun t nt => q t _ (fresh_back (e2.trans e3) nt) ((e2.trans e3).trans (same_new nt)) upd_same⟩
theorem ev_slS {z : Str} {tl th : TO} {lo hi : Option Int} (h : Ev te σ H (.str z)) (h1 : EvO tl σ H lo) (h2 : EvO th σ H hi) (hz : z.length ≤ 100000) : Ev (tSl rSlS te tl th) σ H (.str (cutS z lo hi)) := fun H1 e Q q =>
  h H1 e _ fun H2 e2 => h1 H2 (e.trans e2) _ fun H3 e3 => h2 H3 ((e.trans e2).trans e3) _ fun H4 e4 => ⟨z, rfl, sz2 hz, q H4 ((e2.trans e3).trans e4)⟩
theorem cutS_len (z : Str) (lo hi : Option Int) : (cutS z lo hi).length ≤ z.length := cutS_length z lo hi
end

theorem ok__law_words {P : Program} {w : World} {K : Fg} {mg : Str → Option Value} {base : Heap} (T : TX K mg) : CalA P w K mg base 3 (At.a K (.glo "_law_words")) (spWords) [] := by
  obtain ⟨fd, F⟩ := (T.says.def_ 37 (d := d__law_words) rfl)
  refine cal_nox F sc__law_words (fun vs H Q E h => ?_) (fun _ _ _ _ _ _ us hl => match us, hl with | [_, _], _ => rfl) (fun cdv A outer s H vs Q E hr h => ?_)
  · obtain ⟨p, n, rfl, _⟩ := h
    rfl
  · refine ⟨_, (pss_cons (ps_asg (pe_tup (pa_cons pe_str (pa_cons (pe_lst pa_nil) pa_nil))) (pg_tupk (K := K) (n := 2) rfl (pgs_cons (pg_name (i := 2) sc__law_words.nd rfl (by first | exact Or.inl rfl | exact Or.inr rfl)) (pgs_cons (pg_name (i := 3) sc__law_words.nd rfl (by first | exact Or.inl rfl | exact Or.inr rfl)) pgs_nil))))
      (pss_cons (ps_par (i := 4) (j := 5) (by rfl) sc__law_words.nd rfl rfl (by decide) rfl rfl (pa_cons (pe_cmpR op_eq (pe_cal ((ok__law_draw T).cal (T.glo 65)) hr (by decide) (by rfl) (pa_cons (pv 0) (pa_cons pe_int pa_nil))) pe_int (nomark _)) (pa_cons (pe_cal ((ok__law_word T).cal (T.glo 67)) hr (by decide) (by rfl) (pa_cons (pv 0) pa_nil)) pa_nil)) (by rfl))
      (pss_cons (ps_par (i := 6) (j := 7) (by rfl) sc__law_words.nd rfl rfl (by decide) rfl rfl (pa_cons (pe_op op_add pe_int (pe_cal ((ok__law_draw T).cal (T.glo 65)) hr (by decide) (by rfl) (pa_cons (pv 0) (pa_cons pe_int pa_nil)))) (pa_cons (pe_cal ((ok__law_draw T).cal (T.glo 65)) hr (by decide) (by rfl) (pa_cons (pv 0) (pa_cons pe_int pa_nil))) pa_nil)) (by rfl))
      (pss_cons (ps_for PassesOwn.never rfl (pi_range1 (by rfl) (T.free 66) (pa_cons (pv 1) pa_nil)) (pg_name (i := 8) sc__law_words.nd rfl (by first | exact Or.inl rfl | exact Or.inr rfl))
      (pss_cons (ps_set (i := 9) sc__law_words.nd rfl (by first | exact Or.inl rfl | exact Or.inr rfl) (pe_op op_add_str (pe_op op_add_str (pe_slice sl_str (pv 5) po_none (po_some (pv 6))) (pe_ix ix_str (pv 2) (pe_op op_mod (pe_callTy (T := "int") call_int1 (by rfl) (T.free 0) (by decide +kernel) (pa_cons (pe_op op_add (pv 7) (pv 8)) pa_nil)) pe_int) (fun _ _ => rfl))) (pe_slice sl_str (pv 5) (po_some (pv 6)) po_none)))
      (Evl.pss_cut (ps_if (pt_not (pt_val (pv 4))) (pss_one (ps_set (i := 9) sc__law_words.nd rfl (by first | exact Or.inl rfl | exact Or.inr rfl) (pe_cal ((ok__law_word T).cal (T.glo 67)) hr (by decide) (by rfl) (pa_cons (pv 0) pa_nil)))) pss_nil)
      (pss_cons (ps_set (i := 10) sc__law_words.nd rfl (by first | exact Or.inl rfl | exact Or.inr rfl) (pe_op op_cat (pe_lst (pa_cons (pv 9) pa_nil)) (pe_lc (own := [("_law_sign", 11)]) (by rfl) sc__law_words.nd (pi_str (pv 2)) (blkOk_by (own := [("_law_sign", 11)]) (by kernel_rfl)) (fun _ _ _ _ _ => (pg_name (i := 11) sc__law_words.nd rfl (by first | exact Or.inl rfl | exact Or.inr rfl))) (fun _ _ _ _ _ => pts_nil) (fun _ _ _ _ _ => (pe_op op_add_str (pv 9) (pv 11))))))
      (pss_one (ps_expr (pe_bm PySem.F.plainAttrs_list PySem.F.slot_list_append PySem.F.type_list_append mt_append (pv 3) (pa_cons (pe_ix (ix_listk (K := K)) (pe_lc (own := [("_law_tag", 12)]) (by rfl) sc__law_words.nd (pi_listk (K := K) (pv 10)) (blkOk_by (own := [("_law_tag", 12)]) (by kernel_rfl)) (fun _ _ _ _ _ => (pg_name (i := 12) sc__law_words.nd rfl (by first | exact Or.inl rfl | exact Or.inr rfl))) (fun _ _ _ _ _ => pts_one (pt_cmpR (op_notIn_seqk (K := K)) (pv 12) (pv 3) (by rfl))) (fun _ _ _ _ _ => (pv 12))) pe_int (fun _ _ => rfl)) pa_nil))))))))
      (pss_one (ps_ret (pv 3))))))), ?_⟩
    obtain ⟨p, n, rfl, hn, hp, k⟩ := h
    have hlg : SGN.length = 36 := by decide +kernel
    refine q_unpackL ev_c (el_lst ea_nil (by decide)) fun L H1 nL e1 hL => ⟨_, _, rfl, rfl, ?_⟩
    have hp1 := hp.ex e1
    refine q_parD (p := p) (S1 := fun v => ∃ b, v = .bl b) (S2 := WordOk 5) (evd_L (evd_draw hp1 (ev_var rfl) ev_c (by decide) (by decide)) (fun _ _ => ev_c) fun x hx H2 b => ?_) (fun H2 b hp2 => evd_word hp2 (ev_var rfl)) fun v w H2 b2 hp2 hv hw => ?_
    · obtain ⟨d, rfl, d0, d1⟩ := hx
      exact ⟨_, rv_eq rfl, _, rfl⟩
    obtain ⟨tw, rfl⟩ := hv
    obtain ⟨stem, rfl, hstem, hstl⟩ := hw
    refine q_parD (p := p) (S1 := fun v => ∃ k : Nat, v = .int (k : Nat) ∧ 1 ≤ k) (S2 := Rng 36) (evd_R ev_c (evd_draw hp2 (ev_var rfl) ev_c (by decide) (by decide)) fun x hx H3 b => ?_) (fun H3 b hp3 => evd_draw hp3 (ev_var rfl) ev_c (by decide) (by decide)) fun v w H3 b3 hp3 hv hw => ?_
    · obtain ⟨d, rfl, d0, d1⟩ := hx
      exact ⟨_, rv_I0, (1 + d).toNat, congrArg V.int (by omega), by omega⟩
    obtain ⟨part, rfl, hpart⟩ := hv
    obtain ⟨first, rfl, f0, f1⟩ := hw
    have npL : p ≠ L := by
      obtain ⟨a, b, c, hpp⟩ := hp
      exact ne_of_none hpp nL
    have hL3 : H3 L = some (.lst []) := b3 _ _ (b2 _ _ hL (not_mem1 (Ne.symm npL))) (not_mem1 (Ne.symm npL))
    refine q_forR1 (n := n) (ea_cons (ev_var rfl) ea_nil) ⟨by omega, by omega⟩ (fun i σ' H' => (∃ o8 o9 o10 o11 o12, σ' = [some (.ref p), some (.int (n : Nat)), some (.str SGN), some (.ref L), some (.bl tw), some (.str stem), some (.int (part : Nat)), some (.int first), o8, o9, o10, o11, o12]) ∧ But [p] H H' ∧ Pool H' p ∧ ∃ l : List Str, H' L = some (.lst (l.map V.str)) ∧ l.length = i ∧ l.Nodup ∧ ∀ z ∈ l, nameOk z = true) (fun H4 e4 => ⟨⟨_, _, _, _, _, rfl⟩, ((e1.butT b2).trans b3).same e4, hp3.ex e4, [], e4 _ _ hL3, rfl, List.nodup_nil, fun z hz => by cases hz⟩) (fun i σ' H' hi w => ?_) fun σ' H' w => ?_
    · obtain ⟨⟨o8, o9, o10, o11, o12, rfl⟩, b4, hp4, l, hl, hli, hnd, hok⟩ := w
      have hin : i < n := by omega
      have hix : ∃ c, atI SGN.cps.toList ((first + (i : Nat)) % 36) = some c ∧ (isLow c || isDig c) = true := by
        have h0 : 0 ≤ (first + (i : Nat)) % 36 := Int.emod_nonneg _ (by decide)
        have h1 : (first + (i : Nat)) % 36 < 36 := Int.emod_lt_of_pos _ (by decide)
        obtain ⟨mm, hm1, hm2⟩ : ∃ mm : Nat, (first + (i : Nat)) % 36 = (mm : Int) ∧ mm < 36 := ⟨((first + (i : Nat)) % 36).toNat, by omega, by omega⟩
        have hdl : mm < (TL.tl SGN).length := by
          rw [← TL.len_tl]
          omega
        rw [hm1]
        exact ⟨(TL.tl SGN)[mm], atI_k (by simp [hdl]), sgn_ok _ (List.getElem_mem hdl)⟩
      obtain ⟨c, hc1, hc2⟩ := hix
      obtain ⟨hw1, hw2⟩ := name_ins hstem (by omega) hc2 hpart
      have hc3 := cutS_len stem none (some (part : Nat))
      have hc4 := cutS_len stem (some (part : Nat)) none
      refine q_asg (ev_op (ev_op (ev_slS (ev_var rfl) eo_none (eo_some (ev_var rfl)) (by omega)) (ev_op (ev_var rfl) (ev_op (ev_cb (ea_cons (ev_op (ev_var rfl) (ev_var rfl) rv_I0) ea_nil) rc_int1) ev_c (rv_I (by decide))) (rv_ixS (by omega) hc1)) (rv_adS (by show _ + 1 ≤ _; omega))) (ev_slS (ev_var rfl) (eo_some (ev_var rfl)) eo_none (by omega)) (rv_adS (by rw [len_one]; omega))) fun H5 e5 => ?_
      refine q_cut (M := fun σ' H' => (∃ w o10 o11 o12, σ' = [some (.ref p), some (.int (n : Nat)), some (.str SGN), some (.ref L), some (.bl tw), some (.str stem), some (.int (part : Nat)), some (.int first), some (.int (i : Nat)), some (.str w), o10, o11, o12] ∧ nameOk w = true ∧ w.length ≤ 6) ∧ But [p] H H' ∧ Pool H' p ∧ H' L = some (.lst (l.map V.str))) (s_when (b := !tw) (et_not (et_B (ev_var rfl))) (fun _ H6 e6 => s_asgD (evd_word (hp4.ex (e5.trans e6)) (ev_var rfl)) fun v H7 b7 hp7 hv => ?_) fun _ H6 e6 => ⟨⟨_, _, _, _, rfl, hw1, by omega⟩, (b4.same e5).same e6, hp4.ex (e5.trans e6), (e5.trans e6) _ _ hl⟩) fun σ' H' w => ?_
      · obtain ⟨z, rfl, hz1, hz2⟩ := hv
        exact ⟨⟨_, _, _, _, rfl, hz1, by omega⟩, ((b4.same e5).same e6).trans b7, hp7, b7 _ _ ((e5.trans e6) _ _ hl) (not_mem1 (Ne.symm npL))⟩
      obtain ⟨⟨w, o10, o11, o12, rfl, hw1, hw2⟩, b7, hp7, hl7⟩ := w
      refine q_asgL (xs := (freeW w).map V.str) (el_catN (xs := [.str w]) (el_lst (ea_cons (ev_var rfl) ea_nil) (by show 1 ≤ 100000; decide)) (ys := ((TL.tl SGN).map fun c => w ++ (⟨#[c]⟩ : Str)).map V.str) (by
        rw [List.map_map]
        refine el_lc1 (TL.tl SGN) _ (evs_str (ev_var rfl)) (by simp [signs]) (by unfold signs; rw [List.length_map, ← TL.len_tl]; omega) (fun _ => rfl) fun j x a H8 e8 hx ha => ?_
        have ex : x = .str ⟨#[a]⟩ := by
          unfold signs at hx
          rw [List.getElem?_map] at hx
          have ha' : SGN.cps.toList[j]? = some a := ha
          rw [ha'] at hx
          exact (Option.some.inj hx).symm
        subst ex
        exact ev_op (ev_var rfl) (ev_var rfl) (rv_adS (by show _ + 1 ≤ _; omega))) (by
        rw [List.length_map, List.length_map, ← TL.len_tl]
        show 1 + _ ≤ _
        omega)) fun F H8 nF e8 hF => ?_
      have hfl : (freeW w).length = 37 := by
        show ((TL.tl SGN).map _).length + 1 = 37
        rw [List.length_map, ← TL.len_tl]
        omega
      have hne := free_some w l (by omega)
      obtain ⟨t, ts, hts⟩ : ∃ t ts, (freeW w).filter (fun t => !decide (t ∈ l)) = t :: ts := by
        cases hq : (freeW w).filter (fun t => !decide (t ∈ l)) with
        | nil => exact absurd hq hne
        | cons a b => exact ⟨a, b, rfl⟩
      have htm : t ∈ freeW w ∧ t ∉ l := by
        have := List.mem_filter.mp (show t ∈ (freeW w).filter (fun t => !decide (t ∈ l)) by rw [hts]; exact List.mem_cons_self ..)
        exact ⟨this.1, by simpa using this.2⟩
      refine s_app (e8 _ _ hl7) (ev_var rfl) (v := .str t) (ev_opL1 (xs := ((freeW w).filter (fun t => !decide (t ∈ l))).map V.str) (el_lc (freeW w) _ V.str (evs_list (ev_var rfl) (sqL_of hF)) (by rw [List.length_map]) (by rw [List.length_map]; omega) (fun _ => rfl) fun j x a H9 e9 hx ha => ?_) (fun H9 e9 => ev_c) fun q H9 hq e9 => rv_ixL (sqL_of hq) (atI_k (k := 0) (by rw [hts]; rfl))) (by rw [List.length_map]; omega) fun H9 e9 => ?_
      · have ex : x = .str a := by
          rw [List.getElem?_map, ha] at hx
          exact (Option.some.inj hx).symm
        subst ex
        exact ⟨et_is (et_test (ev_op (ev_var rfl) (ev_var rfl) (rv_niL (sqL_of (e9 _ _ (e8 _ _ hl7))) rfl flat_strs))) (by rw [inV_str]), fun _ => ev_var rfl⟩
      · have b9 : But [p] H (upd H9 L (.lst (l.map V.str ++ [.str t]))) := fun b o hb hn => by
          have hbL : b ≠ L := ne_of_none hb nL
          rw [upd_ne hbL]
          exact ((b7.same e8).same e9) b o hb hn
        have hp9 : Pool (upd H9 L (.lst (l.map V.str ++ [.str t]))) p := by
          obtain ⟨a1, a2, a3, h9⟩ := hp7.ex (e8.trans e9)
          exact ⟨a1, a2, a3, by rw [upd_ne npL]; exact h9⟩
        refine ⟨⟨_, _, _, _, _, rfl⟩, b9, hp9, l ++ [t], by rw [upd_same]; simp, by rw [List.length_append, hli]; rfl, ?_, fun z hz => ?_⟩
        · exact List.nodup_append.mpr ⟨hnd, List.pairwise_singleton .., fun a ha b hb => by
            rw [List.mem_singleton.mp hb]
            intro e
            exact htm.2 (by rw [← e]; exact ha)⟩
        · rcases List.mem_append.mp hz with hz | hz
          · exact hok z hz
          · rw [List.mem_singleton.mp hz]
            exact free_name hw1 (by omega) t htm.1
    · obtain ⟨⟨o8, o9, o10, o11, o12, rfl⟩, b4, hp4, l, hl, hli, hnd, hok⟩ := w
      have hin : ((n : Nat) : Int).toNat = n := by omega
      exact s_ret (D := { nx := _, rt := Q }) (ev_var rfl) fun H5 e5 => k L l H5 nL (b4.same e5) (hp4.ex e5) (e5 _ _ hl) (by omega) hnd hok
end RV

namespace RV
open PySem PySem.Spec PyProof.Rows L2 Evl


section
variable {K : Fg} {p : Addr} {σ : L2.St} {H : Hp} {ta tb tc te : TE} {x y z v w : V} {r : R2} {S S' S1 S2 S3 : V → Prop} {D : Ends} {tz tu tw : TS} {g1 g2 : TG}
theorem go_words {E : XK} {n : Nat} {R : VK} (hn : n ≤ 30) (hp : Pool H p) (h : Ev ta σ H (.ref p)) (h2 : Ev tb σ H (.int (n : Nat)))
    (k : ∀ (L : Addr) (l : List Str) H1, H L = none → But [p] H H1 → Pool H1 p → H1 L = some (.lst (l.map V.str)) → l.length = n → l.Nodup → (∀ z ∈ l, nameOk z = true) → R (.ref L) H1) : tCall spWords [] E (tCons ta (tCons tb tNil)) σ H R :=
  h H (Ex.refl H) _ fun H2 e2 => h2 H2 e2 _ fun H3 e3 => ⟨p, n, rfl, hn, hp.ex (e2.trans e3), fun L l H4 nL b hp4 hL hl hd ho => k L l H4 (fresh_back (e2.trans e3) nL) ((e2.trans e3).butT b) hp4 hL hl hd ho⟩
theorem s_appG {l : Addr} {xs : List V} (hl : H l = some (.lst xs)) (ha : Ev ta σ H (.ref l)) (h : ∀ H1, Ex H H1 → te σ H1 fun v H2 => rAppend (.ref l) [v] H2 fun _ H3 => D.nx σ H3) : tDrop (tBM K "list" rAppend ta (tCons te tNil)) D σ H :=
  ha H (Ex.refl H) _ fun H1 e1 => ⟨Or.inl ⟨rfl, xs, sq_of (e1 l _ hl)⟩, h H1 e1⟩
theorem app_at {l : Addr} {ys : List V} {Q : VK} (hl : H l = some (.lst ys)) (hz : ys.length < 100000) (k : Q .non (upd H l (.lst (ys ++ [v])))) : rAppend (.ref l) [v] H Q := ⟨l, ys, v, rfl, rfl, hl, sz_lt hz, k⟩
/-- a new triple, the second and third may draw -/
theorem go_tup3 {Q : VK} (hp : Pool H p) (h1 : Ev ta σ H x) (h2 : EvD p tb σ H S2) (h3 : ∀ H1, But [p] H H1 → Pool H1 p → EvD p tc σ H1 S3) (k : ∀ t y z H2, H t = none → But [p] H H2 → Pool H2 p → S2 y → S3 z → H2 t = some (.tup [x, y, z]) → Q (.ref t) H2) : tTup (tCons ta (tCons tb (tCons tc tNil))) σ H Q :=
  h1 H (Ex.refl H) _ fun H1 e1 => h2 H1 e1 _ fun y H2 b2 hp2 s2 => h3 H2 (e1.butT b2) hp2 H2 (Ex.refl _) _ fun z H3 b3 hp3 s3 => ⟨by show 3 ≤ sizeLine; decide, fun t nt => by
    have b := (e1.butT b2).trans b3
    have hpt : p ≠ t := by
      obtain ⟨a1, a2, a3, hp3⟩ := hp3
      exact ne_of_none hp3 nt
    have ht : H t = none := by
      cases hh : H t with
      | none => rfl
      | some o =>
        rw [b t o hh (not_mem1 (Ne.symm hpt))] at nt
        cases nt
    exact k t y z _ ht (b.same (same_new nt)) (hp3.ex (same_new nt)) s2 s3 upd_same⟩
/-- a drawn item of a new list -/
theorem evd_opL {xs : List V} (hp : Pool H p) (ha : EvL ta σ H xs) (hb : ∀ H1, Ex H H1 → EvD p tb σ H1 S) (hr : ∀ l y H1, H1 l = some (.lst xs) → S y → ∃ z, RV r (.ref l) y H1 z ∧ S' z) : EvD p (tOp r ta tb) σ H S' := fun H1 e Q q =>
  ha H1 e _ fun l H2 nl e2 hl => hb H2 (e.trans e2) H2 (Ex.refl _) _ fun y H3 b hp3 s => by
    have hpl : l ≠ p := by
      obtain ⟨a1, a2, a3, hp0⟩ := hp.ex e
      exact Ne.symm (ne_of_none hp0 nl)
    obtain ⟨z, h1, h2⟩ := hr l y H3 (b _ _ hl (not_mem1 hpl)) s
    exact h1 H3 (Ex.refl _) _ fun H4 e4 => q z H4 (e2.butT (b.same e4)) (hp3.ex e4) h2
end
theorem nodup_get {α : Type} {l : List α} (h : l.Nodup) {i j : Nat} (hi : i < l.length) (hj : j < l.length) (e : l[i] = l[j]) : i = j := by
  have h2 := List.pairwise_iff_getElem.mp (List.nodup_iff_pairwise_ne.mp h)
  rcases Nat.lt_trichotomy i j with k | k | k
  · exact absurd e (h2 i j hi hj k)
  · exact k
  · exact absurd e.symm (h2 j i hj hi k)
/-! ### lines, dials -/
def RowP (d : PipeD) (v : V) (H : Hp) : Prop := IsT [.str d.1, .str d.2.1, .str d.2.2] v H
def RowM (d : MetD) (v : V) (H : Hp) : Prop := IsT [.str d.1, .str d.2.1, .bl d.2.2] v H
def LinesAt (H : Hp) (L : Addr) (ps : List PipeD) : Prop := ∃ ys, H L = some (.lst ys) ∧ Each RowP H ps ys
def DialsAt (H : Hp) (L : Addr) (ms : List MetD) : Prop := ∃ ys, H L = some (.lst ys) ∧ Each RowM H ms ys
theorem RowP.to {H H' : Hp} {d : PipeD} {v : V} (e : ∀ t xs, H t = some (.tup xs) → H' t = some (.tup xs)) (h : RowP d v H) : RowP d v H' := by
  obtain ⟨t, h1, h2⟩ := h
  exact ⟨t, h1, e _ _ h2⟩
theorem RowM.to {H H' : Hp} {d : MetD} {v : V} (e : ∀ t xs, H t = some (.tup xs) → H' t = some (.tup xs)) (h : RowM d v H) : RowM d v H' := by
  obtain ⟨t, h1, h2⟩ := h
  exact ⟨t, h1, e _ _ h2⟩
theorem LinesAt.to {H H' : Hp} {L : Addr} {ps : List PipeD} (h : LinesAt H L ps) (e : ∀ t xs, H t = some (.tup xs) → H' t = some (.tup xs)) (e2 : ∀ o, H L = some o → H' L = some o) : LinesAt H' L ps := by
  obtain ⟨ys, h1, h2⟩ := h
  exact ⟨ys, e2 _ h1, Each.imp (P := RowP) (fun _ _ r => r.to e) h2⟩
theorem DialsAt.to {H H' : Hp} {L : Addr} {ps : List MetD} (h : DialsAt H L ps) (e : ∀ t xs, H t = some (.tup xs) → H' t = some (.tup xs)) (e2 : ∀ o, H L = some o → H' L = some o) : DialsAt H' L ps := by
  obtain ⟨ys, h1, h2⟩ := h
  exact ⟨ys, e2 _ h1, Each.imp (P := RowM) (fun _ _ r => r.to e) h2⟩
theorem LinesAt.ex {H H' : Hp} {L : Addr} {ps : List PipeD} (h : LinesAt H L ps) (e : Ex H H') : LinesAt H' L ps := h.to (fun t xs => e t _) fun o => e L o
theorem DialsAt.ex {H H' : Hp} {L : Addr} {ps : List MetD} (h : DialsAt H L ps) (e : Ex H H') : DialsAt H' L ps := h.to (fun t xs => e t _) fun o => e L o
theorem but_tup {H H' : Hp} {p : Addr} (b : But [p] H H') (hp : Pool H p) : ∀ t xs, H t = some (.tup xs) → H' t = some (.tup xs) := fun t xs h => by
  obtain ⟨a1, a2, a3, hp⟩ := hp
  exact b _ _ h (not_mem1 (ne_oo h hp (by intro z; cases z)))
theorem LinesAt.but {H H' : Hp} {L p : Addr} {ps : List PipeD} (h : LinesAt H L ps) (b : But [p] H H') (hp : Pool H p) (n : L ≠ p) : LinesAt H' L ps := h.to (but_tup b hp) fun o ho => b _ _ ho (not_mem1 n)
theorem DialsAt.but {H H' : Hp} {L p : Addr} {ps : List MetD} (h : DialsAt H L ps) (b : But [p] H H') (hp : Pool H p) (n : L ≠ p) : DialsAt H' L ps := h.to (but_tup b hp) fun o ho => b _ _ ho (not_mem1 n)
def spLines : Sp := fun vs H Q _ => ∃ (p : Addr) (n w : Nat), vs = [.ref p, .int (n : Nat), .int (w : Nat)] ∧ n ≤ 30 ∧ 2 ≤ w ∧ w ≤ 30 ∧ Pool H p ∧ ∀ (L : Addr) (ps : List PipeD) H', H L = none → But [p] H H' → Pool H' p → LinesAt H' L ps → ps.length = n → (ps.map (·.1)).Nodup → (∀ d ∈ ps, PipeOk d) → Q (.ref L) H'
def spDials : Sp := fun vs H Q _ => ∃ (p L : Addr) (ps : List PipeD) (n r : Nat), vs = [.ref p, .ref L, .int (n : Nat), .int (r : Nat)] ∧ n ≤ 30 ∧ 0 < r ∧ r ≤ 1000 ∧ LinesAt H L ps ∧ 0 < ps.length ∧ ps.length ≤ 1000 ∧ (∀ d ∈ ps, PipeOk d) ∧ Pool H p ∧
  ∀ (M : Addr) (ms : List MetD) H', H M = none → But [p] H H' → Pool H' p → DialsAt H' M ms → ms.length = n → (ms.map (·.1)).Nodup → (∀ d ∈ ms, MetOk d ∧ d.2.1 ∈ ps.map (·.1)) → Q (.ref M) H'
def spText : Sp := fun vs H Q _ => ∃ (L M : Addr) (d : NetD), vs = [.ref L, .ref M] ∧ LinesAt H L d.1 ∧ DialsAt H M d.2 ∧ AllOk d ∧ d.1.length ≤ 100 ∧ d.2.length ≤ 100 ∧ ∀ H', Ex H H' → Q (.str (textOf d)) H'
def Small (i : Int) : Prop := -(2 * 10 ^ 30) ≤ i ∧ i ≤ 2 * 10 ^ 30
def spNumber : Sp := fun vs H Q _ => ∃ p, vs = [.ref p] ∧ Pool H p ∧ ∀ i H', Small i → But [p] H H' → Pool H' p → Q (.int i) H'
def SmallO : Option Int → Prop
  | none => True
  | some i => Small i
def spReading : Sp := fun vs H Q _ => ∃ p b, vs = [.ref p, .bl b] ∧ Pool H p ∧ ∀ r H', SmallO r → (r = none → b = false) → But [p] H H' → Pool H' p → Q (rdV r) H'

theorem ok__law_lines {P : Program} {w : World} {K : Fg} {mg : Str → Option Value} {base : Heap} (T : TX K mg) : CalA P w K mg base 4 (At.a K (.glo "_law_lines")) (spLines) [] := by
  obtain ⟨fd, F⟩ := (T.says.def_ 38 (d := d__law_lines) rfl)
  refine cal_nox F sc__law_lines (fun vs H Q E h => ?_) (fun _ _ _ _ _ _ us hl => match us, hl with | [_, _, _], _ => rfl) (fun cdv A outer s H vs Q E hr h => ?_)
  · obtain ⟨p, n, w, rfl, _⟩ := h
    rfl
  · refine ⟨_, (pss_cons (ps_par3 (i := 3) (j := 4) (l := 5) (by rfl) sc__law_lines.nd rfl rfl rfl (by decide) (by decide) (by decide) rfl rfl rfl (pa_cons (pe_cal ((ok__law_words T).cal (T.glo 68)) hr (by decide) (by rfl) (pa_cons (pv 0) (pa_cons (pv 1) pa_nil))) (pa_cons (pe_cal ((ok__law_words T).cal (T.glo 68)) hr (by decide) (by rfl) (pa_cons (pv 0) (pa_cons (pv 2) pa_nil))) (pa_cons (pe_lst pa_nil) pa_nil))) (by rfl))
      (pss_cons (ps_for PassesOwn.never rfl (pi_listk (K := K) (pv 3)) (pg_name (i := 6) sc__law_lines.nd rfl (by first | exact Or.inl rfl | exact Or.inr rfl))
      (pss_cons (ps_set (i := 7) sc__law_lines.nd rfl (by first | exact Or.inl rfl | exact Or.inr rfl) (pe_cal ((ok__law_draw T).cal (T.glo 65)) hr (by decide) (by rfl) (pa_cons (pv 0) (pa_cons (pv 2) pa_nil))))
      (pss_one (ps_expr (pe_bm PySem.F.plainAttrs_list PySem.F.slot_list_append PySem.F.type_list_append mt_append (pv 5) (pa_cons (pe_tup (pa_cons (pv 6) (pa_cons (pe_ix (ix_listk (K := K)) (pv 4) (pv 7) (fun _ _ => rfl)) (pa_cons (pe_ix (ix_listk (K := K)) (pv 4) (pe_op op_mod (pe_callTy (T := "int") call_int1 (by rfl) (T.free 0) (by decide +kernel) (pa_cons (pe_op op_add (pe_op op_add (pv 7) pe_int) (pe_cal ((ok__law_draw T).cal (T.glo 65)) hr (by decide) (by rfl) (pa_cons (pv 0) (pa_cons (pe_op op_sub (pv 2) pe_int) pa_nil)))) pa_nil)) (pv 2)) (fun _ _ => rfl)) pa_nil)))) pa_nil))))))
      (pss_one (ps_ret (pv 5))))), ?_⟩
    obtain ⟨p, n, w, rfl, hn, hw, hw2, hp, k⟩ := h
    refine go_words hn hp (ev_var rfl) (ev_var rfl) fun LT lt H1 nLT b1 hp1 hLT hlt hndt hokt => ?_
    refine go_words hw2 hp1 (ev_var rfl) (ev_var rfl) fun LS ls H2 nLS b2 hp2 hLS hls hnds hoks => ?_
    refine (el_lst (σ := start _ _) (ta := tNil) ea_nil (by decide)) H2 (Ex.refl _) _ fun LF H3 nLF e3 hLF => ⟨_, _, _, rfl, ?_⟩
    have npT : LT ≠ p := by
      obtain ⟨a1, a2, a3, hp0⟩ := hp
      exact Ne.symm (ne_of_none hp0 nLT)
    have npS : LS ≠ p := by
      obtain ⟨a1, a2, a3, hp0⟩ := hp1
      exact Ne.symm (ne_of_none hp0 nLS)
    have npF : LF ≠ p := by
      obtain ⟨a1, a2, a3, hp0⟩ := hp2
      exact Ne.symm (ne_of_none hp0 nLF)
    have hLT3 := e3 _ _ (b2 _ _ hLT (not_mem1 npT))
    have hLS3 := e3 _ _ hLS
    have nTF : LT ≠ LF := ne_of_none (b2 _ _ hLT (not_mem1 npT)) nLF
    have nSF : LS ≠ LF := ne_of_none hLS nLF
    have hFn : H LF = none := by
      cases hh : H LF with
      | none => rfl
      | some o =>
        rw [b2 _ _ (b1 _ _ hh (not_mem1 npF)) (not_mem1 npF)] at nLF
        cases nLF
    refine q_forLn (a := LT) (xs := lt.map V.str) (ev_var rfl) (sqL_of hLT3) (fun i σ' H' => (∃ o6 o7, σ' = [some (.ref p), some (.int (n : Nat)), some (.int (w : Nat)), some (.ref LT), some (.ref LS), some (.ref LF), o6, o7]) ∧ But [p] H H' ∧ Pool H' p ∧ H' LT = some (.lst (lt.map V.str)) ∧ H' LS = some (.lst (ls.map V.str)) ∧ ∃ ps, LinesAt H' LF ps ∧ ps.map (·.1) = lt.take i ∧ ∀ d ∈ ps, PipeOk d) (fun H4 e4 => ⟨⟨_, _, rfl⟩, (((b1.trans b2).same e3).same e4), hp2.ex (e3.trans e4), e4 _ _ hLT3, e4 _ _ hLS3, [], ⟨[], e4 _ _ hLF, .nil⟩, rfl, fun d hd => by cases hd⟩) (fun i σ' H' _ q => sqL_of q.2.2.2.1) (fun i x σ' H' hx q => ?_) fun σ' H' q => ?_
    · obtain ⟨⟨o6, o7, rfl⟩, b, hp4, hT4, hS4, ps, hF4, hps, hpo⟩ := q
      obtain ⟨tag, htag, rfl⟩ : ∃ z, lt[i]? = some z ∧ x = .str z := by
        rw [List.getElem?_map] at hx
        cases hh : lt[i]? with
        | none =>
          rw [hh] at hx
          cases hx
        | some z =>
          rw [hh] at hx
          exact ⟨z, rfl, (Option.some.inj hx).symm⟩
      have hil : i < lt.length := (List.getElem?_eq_some_iff.mp htag).1
      refine q_asgD (evd_draw hp4 (ev_var rfl) (ev_var rfl) (by omega) (by omega)) fun v H5 b5 hp5 hv => ?_
      obtain ⟨bg, rfl, hb0, hb1⟩ := hv
      obtain ⟨bn, rfl⟩ : ∃ z : Nat, bg = (z : Int) := ⟨bg.toNat, by omega⟩
      have hS5 := b5 _ _ hS4 (not_mem1 npS)
      have hF5 := hF4.but b5 hp4 npF
      obtain ⟨ys, hLy, hEy⟩ := id hF5
      have hbl : bn < ls.length := by omega
      refine s_appG hLy (ev_var rfl) fun H6 e6 => ?_
      have hS6 := e6 _ _ hS5
      refine go_tup3 (S2 := fun v => v = .str (ls[bn])) (S3 := fun v => ∃ z, v = .str z ∧ nameOk z = true ∧ z ≠ ls[bn]) (hp5.ex e6) (ev_var rfl) (evd_ev (v := .str (ls[bn])) (hp5.ex e6) (ev_op (ev_var rfl) (ev_var rfl) (rv_ixL (sqL_of hS6) (atI_k (k := bn) (by simp [hbl])))) rfl) (fun H7 b7 hp7 => evd_R (ev_var rfl) (evd_L (S := fun v => ∃ z : Int, v = .int z ∧ (bn : Int) + 1 ≤ z ∧ z < (bn : Int) + w) (S' := fun v => ∃ m : Nat, v = .int (m : Nat) ∧ m < w ∧ m ≠ bn) (evd_cb1 (S := fun v => ∃ z : Int, v = .int z ∧ (bn : Int) + 1 ≤ z ∧ z < (bn : Int) + w) (evd_R (ev_op (ev_var rfl) ev_c rv_I0) (evd_draw hp7 (ev_var rfl) (ev_op (ev_var rfl) ev_c rv_I0) (by omega) (by omega)) fun y hy H8 b8 => ?_) fun x hx H8 => ?_) (fun H8 b8 => ev_var rfl) fun x hx H8 b8 => ?_) fun y hy H8 b8 => ?_) fun t y z H7 nt b7 hp7 hy hz ht => ?_
      · obtain ⟨d, rfl, d0, d1⟩ := hy
        exact ⟨_, rv_I0, _, rfl, by omega, by omega⟩
      · obtain ⟨z, rfl, h1, h2⟩ := hx
        exact ⟨_, rc_int1, z, rfl, h1, h2⟩
      · obtain ⟨z, rfl, h1, h2⟩ := hx
        have hz : z % (w : Nat) = if z < w then z else z - w := by
          split
          · exact Int.emod_eq_of_lt (by omega) (by omega)
          · rw [← Int.sub_emod_right, Int.emod_eq_of_lt (by omega) (by omega)]
        refine ⟨_, rv_I (by omega), (z % (w : Nat)).toNat, congrArg V.int ?_, ?_, ?_⟩
        · rw [hz]
          split <;> omega
        · rw [hz]
          split <;> omega
        · rw [hz]
          split <;> omega
      · obtain ⟨m, rfl, h1, h2⟩ := hy
        have hml : m < ls.length := by omega
        refine ⟨_, rv_ixL (sqL_of (b8 _ _ (b7 _ _ hS6 (not_mem1 npS)) (not_mem1 npS))) (atI_k (k := m) (v := .str (ls[m])) (by simp [hml])), ls[m], rfl, hoks _ (List.getElem_mem hml), fun e => h2 ?_⟩
        exact nodup_get hnds hml hbl e
      · subst hy
        obtain ⟨z, rfl, hz1, hz2⟩ := hz
        have hF7 := (hF5.ex e6).but b7 (hp5.ex e6) npF
        obtain ⟨zs, hLz, hEz⟩ := hF7
        have hzl := Each.len hEz
        have hpl : ps.length = i := by
          have := congrArg List.length hps
          rw [List.length_map, List.length_take] at this
          omega
        refine app_at hLz (by omega) ?_
        have ntF : t ≠ LF := ne_oo ht hLz (by intro z; cases z)
        have tupk : ∀ t' xs', H7 t' = some (.tup xs') → upd H7 LF (.lst (zs ++ [.ref t])) t' = some (.tup xs') := fun t' xs' h' => hp_oth (ne_oo h' hLz (by intro z; cases z)) h'
        refine ⟨⟨_, _, rfl⟩, ?_, ?_, ?_, ?_, ps ++ [(tag, ls[bn], z)], ⟨zs ++ [.ref t], upd_same, Each.snoc ⟨t, rfl, tupk _ _ ht⟩ (Each.imp (P := RowP) (fun _ _ r => r.to tupk) hEz)⟩, ?_, ?_⟩
        · intro b' o hb' hn'
          have : b' ≠ LF := ne_of_none hb' hFn
          rw [upd_ne this]
          exact ((b.trans b5).same e6).trans b7 b' o hb' hn'
        · obtain ⟨a1, a2, a3, hp0⟩ := hp7
          exact ⟨a1, a2, a3, by rw [upd_ne npF.symm]; exact hp0⟩
        · exact hp_oth nTF (b7 _ _ (e6 _ _ (b5 _ _ hT4 (not_mem1 npT))) (not_mem1 npT))
        · exact hp_oth nSF (b7 _ _ hS6 (not_mem1 npS))
        · rw [List.map_append, hps, List.take_succ, htag]
          rfl
        · intro d hd
          rcases List.mem_append.mp hd with hd | hd
          · exact hpo d hd
          · rw [List.mem_singleton.mp hd]
            exact ⟨hokt _ (List.mem_of_getElem? htag), hoks _ (List.getElem_mem hbl), hz1, hz2⟩
    · obtain ⟨⟨o6, o7, rfl⟩, b, hp4, hT4, hS4, ps, hF4, hps, hpo⟩ := q
      rw [List.length_map, List.take_length] at hps
      refine s_ret (D := { nx := _, rt := Q }) (ev_var rfl) fun H5 e5 => k LF ps H5 hFn (b.same e5) (hp4.ex e5) (hF4.ex e5) ?_ (by rw [hps]; exact hndt) hpo
      rw [← hlt, ← hps, List.length_map]
end RV

namespace RV
open PySem PySem.Spec PyProof.Rows L2 Evl

theorem ok__law_dials {P : Program} {w : World} {K : Fg} {mg : Str → Option Value} {base : Heap} (T : TX K mg) : CalA P w K mg base 4 (At.a K (.glo "_law_dials")) (spDials) [] := by
  obtain ⟨fd, F⟩ := (T.says.def_ 39 (d := d__law_dials) rfl)
  refine cal_nox F sc__law_dials (fun vs H Q E h => ?_) (fun _ _ _ _ _ _ us hl => match us, hl with | [_, _, _, _], _ => rfl) (fun cdv A outer s H vs Q E hr h => ?_)
  · obtain ⟨p, L, ps, n, r, rfl, _⟩ := h
    rfl
  · refine ⟨_, (pss_cons (ps_set (i := 4) sc__law_dials.nd rfl (by first | exact Or.inl rfl | exact Or.inr rfl) (pe_lst pa_nil))
      (pss_cons (ps_for PassesOwn.never rfl (pi_listk (K := K) (pe_cal ((ok__law_words T).cal (T.glo 68)) hr (by decide) (by rfl) (pa_cons (pv 0) (pa_cons (pv 2) pa_nil)))) (pg_name (i := 5) sc__law_dials.nd rfl (by first | exact Or.inl rfl | exact Or.inr rfl))
      (pss_one (ps_expr (pe_bm PySem.F.plainAttrs_list PySem.F.slot_list_append PySem.F.type_list_append mt_append (pv 4) (pa_cons (pe_tup (pa_cons (pv 5) (pa_cons (pe_ix (ix_tupk (K := K)) (pe_ix (ix_listk (K := K)) (pv 1) (pe_cal ((ok__law_draw T).cal (T.glo 65)) hr (by decide) (by rfl) (pa_cons (pv 0) (pa_cons (pe_callB (id := "len") (call_len_seqk (K := K)) (by rfl) (T.free 4) (by decide +kernel) (pa_cons (pv 1) pa_nil)) pa_nil))) (fun _ _ => rfl)) pe_int (fun _ _ => rfl)) (pa_cons (pe_cmpR op_eq (pe_cal ((ok__law_draw T).cal (T.glo 65)) hr (by decide) (by rfl) (pa_cons (pv 0) (pa_cons (pv 3) pa_nil))) pe_int (nomark _)) pa_nil)))) pa_nil)))))
      (pss_one (ps_ret (pv 4))))), ?_⟩
    obtain ⟨p, L, ps, n, r, rfl, hn, h0, h1, hL, hpl, hpl2, hpo, hp, k⟩ := h
    refine q_asgL (el_lst ea_nil (by decide)) fun LF H1 nLF e1 hLF => ?_
    have npF : LF ≠ p := by
      obtain ⟨a1, a2, a3, hp0⟩ := hp
      exact Ne.symm (ne_of_none hp0 nLF)
    have npL : L ≠ p ∨ True := .inr trivial
    have nLp : L ≠ p := by
      obtain ⟨a1, a2, a3, hp0⟩ := hp
      obtain ⟨ys, hy, hE⟩ := hL
      intro z
      subst z
      rw [hp0] at hy
      have hy2 := HO.lst.inj (Option.some.inj hy)
      subst hy2
      cases ps with
      | nil => cases hpl
      | cons d ps =>
        cases hE with
        | cons hr _ =>
          obtain ⟨t, ht, _⟩ := hr
          cases ht
    refine go_words hn (hp.ex e1) (ev_var rfl) (ev_var rfl) fun LT lt H2 nLT b2 hp2 hLT hlt hndt hokt => ⟨LT, rfl, ⟨_, sqL_of hLT⟩, for_it walk_list (fun i σ' H' => (∃ o5, σ' = [some (.ref p), some (.ref L), some (.int (n : Nat)), some (.int (r : Nat)), some (.ref LF), o5]) ∧ But [p] H H' ∧ Pool H' p ∧ LinesAt H' L ps ∧ H' LT = some (.lst (lt.map V.str)) ∧ ∃ ms, DialsAt H' LF ms ∧ ms.map (·.1) = lt.take i ∧ ∀ d ∈ ms, MetOk d ∧ d.2.1 ∈ ps.map (·.1)) ⟨⟨_, rfl⟩, e1.butT b2, hp2, (hL.ex e1).but b2 (hp.ex e1) nLp, hLT, [], ⟨[], b2 _ _ hLF (not_mem1 npF), .nil⟩, rfl, fun d hd => by cases hd⟩ (fun i σ' H' _ q => sqL_of q.2.2.2.2.1) (fun i x σ' H' H'' hi q y => ?_) fun σ' H' q => ?_⟩
    · obtain ⟨rfl, hx⟩ := y
      obtain ⟨⟨o5, rfl⟩, b, hp4, hL4, hT4, ms, hF4, hms, hmo⟩ := q
      have nTp : LT ≠ p := by
        obtain ⟨a1, a2, a3, hp0⟩ := hp.ex e1
        exact Ne.symm (ne_of_none hp0 nLT)
      have nTF : LF ≠ LT := ne_of_none hLF nLT
      have nLF2 : L ≠ LF := by
        obtain ⟨ys, hy, _⟩ := hL
        exact ne_of_none hy nLF
      obtain ⟨tag, htag, rfl⟩ : ∃ z, lt[i]? = some z ∧ x = .str z := by
        rw [List.getElem?_map] at hx
        cases hh : lt[i]? with
        | none =>
          rw [hh] at hx
          cases hx
        | some z =>
          rw [hh] at hx
          exact ⟨z, rfl, (Option.some.inj hx).symm⟩
      have hil : i < lt.length := (List.getElem?_eq_some_iff.mp htag).1
      obtain ⟨ys, hLy, hEy⟩ := id hF4
      refine s_appG hLy (ev_var rfl) fun H6 e6 => ?_
      have hL6 := hL4.ex e6
      obtain ⟨rows, hrows, hErows⟩ := id hL6
      have hrl := Each.len hErows
      refine go_tup3 (S2 := fun v => ∃ z, v = .str z ∧ z ∈ ps.map (·.1)) (S3 := fun v => ∃ b, v = .bl b) (hp4.ex e6) (ev_var rfl) (evd_L (S := fun v => ∃ d ∈ ps, ∃ t, v = .ref t ∧ ∀ H', But [p] H6 H' → H' t = some (.tup [.str d.1, .str d.2.1, .str d.2.2])) (evd_R (ev_var rfl) (evd_draw (hp4.ex e6) (ev_var rfl) (ev_cb (ea_cons (ev_var rfl) ea_nil) (rc_lenL (sqL_of hrows))) (by omega) (by omega)) fun y hy H7 b7 => ?_) (fun _ _ => ev_c) fun x hx H7 b7 => ?_) (fun H7 b7 hp7 => evd_L (evd_draw hp7 (ev_var rfl) (ev_var rfl) (by omega) (by omega)) (fun _ _ => ev_c) fun x hx H8 b8 => ?_) fun t y z H7 nt b7 hp7 hy hz ht => ?_
      · obtain ⟨d, rfl, d0, d1⟩ := hy
        obtain ⟨dn, rfl⟩ : ∃ z : Nat, d = (z : Int) := ⟨d.toNat, by omega⟩
        have hdl : dn < ps.length := by omega
        obtain ⟨v, hv, t, rfl, ht⟩ := Each.at' hErows (show ps[dn]? = some ps[dn] by simp [hdl])
        exact ⟨_, rv_ixL (sqL_of (b7 _ _ hrows (not_mem1 nLp))) (atI_k hv), ps[dn], List.getElem_mem hdl, t, rfl, fun H' b' => but_tup b' (hp4.ex e6) _ _ ht⟩
      · obtain ⟨d, hd, t, rfl, ht⟩ := hx
        exact ⟨_, rv_ixT (sqT_of (ht _ b7)) (atI_k (k := 0) rfl), d.1, rfl, List.mem_map.mpr ⟨d, hd, rfl⟩⟩
      · obtain ⟨d, rfl, d0, d1⟩ := hx
        exact ⟨_, rv_eq rfl, _, rfl⟩
      · obtain ⟨z1, rfl, hz1⟩ := hy
        obtain ⟨z2, rfl⟩ := hz
        have hF7 := (hF4.ex e6).but b7 (hp4.ex e6) npF
        obtain ⟨zs, hLz, hEz⟩ := hF7
        have hzl := Each.len hEz
        have hml : ms.length = i := by
          have := congrArg List.length hms
          rw [List.length_map, List.length_take] at this
          omega
        have hlt2 : i < (lt.map V.str).length := by
          rw [List.length_map]
          exact hil
        refine app_at hLz (by omega) ?_
        have tupk : ∀ t' xs', H7 t' = some (.tup xs') → upd H7 LF (.lst (zs ++ [.ref t])) t' = some (.tup xs') := fun t' xs' h' => hp_oth (ne_oo h' hLz (by intro z; cases z)) h'
        refine ⟨⟨_, rfl⟩, ?_, ?_, ?_, ?_, ms ++ [(tag, z1, z2)], ⟨zs ++ [.ref t], upd_same, Each.snoc ⟨t, rfl, tupk _ _ ht⟩ (Each.imp (P := RowM) (fun _ _ r => r.to tupk) hEz)⟩, ?_, ?_⟩
        · intro b' o hb' hn'
          have : b' ≠ LF := ne_of_none hb' nLF
          rw [upd_ne this]
          exact ((b.same e6).trans b7) b' o hb' hn'
        · obtain ⟨a1, a2, a3, hp0⟩ := hp7
          exact ⟨a1, a2, a3, by rw [upd_ne npF.symm]; exact hp0⟩
        · exact (hL6.but b7 (hp4.ex e6) nLp).to tupk fun o ho => by
            rw [upd_ne nLF2]
            exact ho
        · exact hp_oth nTF.symm (b7 _ _ (e6 _ _ hT4) (not_mem1 nTp))
        · rw [List.map_append, hms, List.take_succ, htag]
          rfl
        · intro d hd
          rcases List.mem_append.mp hd with hd | hd
          · exact hmo d hd
          · rw [List.mem_singleton.mp hd]
            obtain ⟨dd, hdd, e⟩ := List.mem_map.mp hz1
            refine ⟨⟨hokt _ (List.mem_of_getElem? htag), ?_⟩, hz1⟩
            show nameOk z1 = true
            rw [← e]
            exact (hpo dd hdd).1
    · obtain ⟨⟨o5, rfl⟩, b, hp4, hL4, hT4, ms, hF4, hms, hmo⟩ := q
      rw [List.length_map, List.take_length] at hms
      refine s_ret (D := { nx := _, rt := Q }) (ev_var rfl) fun H5 e5 => k LF ms H5 nLF (b.same e5) (hp4.ex e5) (hF4.ex e5) ?_ (by rw [hms]; exact hndt) hmo
      rw [← hlt, ← hms, List.length_map]
theorem ok__law_text {P : Program} {w : World} {K : Fg} {mg : Str → Option Value} {base : Heap} (T : TX K mg) : CalA P w K mg base 1 (At.a K (.glo "_law_text")) (spText) [] := by
  obtain ⟨fd, F⟩ := (T.says.def_ 40 (d := d__law_text) rfl)
  refine cal_nox F sc__law_text (fun vs H Q E h => ?_) (fun _ _ _ _ _ _ us hl => match us, hl with | [_, _], _ => rfl) (fun cdv A outer s H vs Q E hr h => ?_)
  · obtain ⟨L, M, d, rfl, _⟩ := h
    rfl
  · refine ⟨_, (pss_cons (ps_setLc (i := 2) (own := [("_law_line", 4)]) (by rfl) sc__law_text.nd rfl rfl (sw_true rfl rfl rfl (by decide +kernel)) (pi_listk (K := K) (pv 0)) (blkOk_by (own := [("_law_line", 4)]) (by kernel_rfl)) (fun _ _ _ _ _ => (pg_name (i := 4) sc__law_text.nd rfl (by first | exact Or.inl rfl | exact Or.inr rfl))) (fun _ _ _ _ _ => pts_nil) (fun _ _ _ _ _ => (pe_op op_add_str pe_str (pe_joink (K := K) pe_str (pv 4)))))
      (pss_cons (ps_for PassesOwn.never rfl (pi_listk (K := K) (pv 1)) (pg_tupk (K := K) (n := 3) rfl (pgs_cons (pg_name (i := 3) sc__law_text.nd rfl (by first | exact Or.inl rfl | exact Or.inr rfl)) (pgs_cons (pg_name (i := 4) sc__law_text.nd rfl (by first | exact Or.inl rfl | exact Or.inr rfl)) (pgs_cons (pg_name (i := 5) sc__law_text.nd rfl (by first | exact Or.inl rfl | exact Or.inr rfl)) pgs_nil))))
      (pss_one (ps_expr (pe_bm PySem.F.plainAttrs_list PySem.F.slot_list_append PySem.F.type_list_append mt_append (pv 2) (pa_cons (pe_op op_add_str (pe_op op_add_str (pe_op op_add_str (pe_op op_add_str pe_str (pv 3)) pe_str) (pv 4)) (pe_ifExp (pt_val (pv 5)) pe_str pe_str)) pa_nil)))))
      (pss_one (ps_ret (pe_joink (K := K) pe_str (pv 2)))))), ?_⟩
    obtain ⟨L, M, d, rfl, ⟨ys, hL, hE⟩, ⟨zs, hM, hF⟩, hok, h1, h2, k⟩ := h
    have hl1 := Each.len hE
    have hl2 := Each.len hF
    refine q_asgL (xs := (d.1.map lineP).map V.str) (by
      rw [List.map_map]
      refine el_lc1 (xs := ys) d.1 _ (evs_list (ev_var rfl) (sqL_of hL)) hl1.symm (by omega) (fun _ => rfl) fun i x a H2 e2 hx ha => ?_
      obtain ⟨t, rfl, ht⟩ := Each.mem hE i a x ha hx
      have hao := hok (.inl a) (by unfold itemsOf; exact List.mem_append.mpr (.inl (List.mem_map.mpr ⟨a, List.mem_of_getElem? ha, rfl⟩)))
      have hll := line_len hao
      have k1 := nameOk_len hao.1
      have k2 := nameOk_len hao.2.1
      have k3 := nameOk_len hao.2.2.1
      have hsp : (" " : Str).length = 1 := by decide +kernel
      have hpi : ("pipe " : Str).length = 5 := by decide +kernel
      have ej : ("pipe " : Str) ++ Txt.join SPC [a.1, a.2.1, a.2.2] = lineP a := TL.ext_tl (by
        unfold lineP
        rw [TL.tl_append, tl_joinT, tl_joinT]
        have e0 : TL.tl ("pipe " : Str) = TL.tl ("pipe" : Str) ++ TL.tl SPC := by decide +kernel
        rw [e0]
        simp only [partsP, List.map_cons, List.map_nil, TL.joinL, List.append_assoc])
      refine ev_is (ev_op ev_c (ev_joinT (ys := [a.1, a.2.1, a.2.2]) ev_c (ev_var rfl) (.inl (sqT_of (e2 _ _ ht))) (by
        simp only [List.map_cons, List.map_nil, List.sum_cons, List.sum_nil, List.length_cons, List.length_nil]
        omega)) (rv_adS (by
          have := congrArg Str.length ej
          rw [len_app] at this
          have hll2 : (lineP a).length ≤ 36 := hll
          have h3 : ("pipe " : Str).length + (Txt.join SPC [a.1, a.2.1, a.2.2]).length ≤ 100000 := by omega
          exact h3))) (congrArg V.str ej)) fun R H1 nR e1 hR => ?_
    have nRM : M ≠ R := ne_of_none hM nR
    refine q_forL (a := M) (xs := zs) (ev_var rfl) (sqL_of (e1 _ _ hM)) (fun i σ' H' => (∃ o3 o4 o5, σ' = [some (.ref L), some (.ref M), some (.ref R), o3, o4, o5]) ∧ Ex H H' ∧ H' R = some (.lst ((d.1.map lineP ++ (d.2.take i).map lineM).map V.str))) (fun H2 e2 => ⟨⟨_, _, _, rfl⟩, e1.trans e2, by
      rw [List.take_zero, List.map_nil, List.append_nil]
      exact e2 _ _ hR⟩) (fun i σ' H' _ q => sqL_of (q.2.1 _ _ hM)) (fun i x σ' H' hx q => ?_) fun σ' H' q => ?_
    · obtain ⟨⟨o3, o4, o5, rfl⟩, ex, hR'⟩ := q
      obtain ⟨a, ha, t, rfl, ht⟩ := Each.at hF hx
      have hao := hok (.inr a) (by unfold itemsOf; exact List.mem_append.mpr (.inr (List.mem_map.mpr ⟨a, List.mem_of_getElem? ha, rfl⟩)))
      have hll : (lineM a).length ≤ 36 := line_len hao
      have k1 := nameOk_len hao.1
      have k2 := nameOk_len hao.2
      have hi : i < d.2.length := (List.getElem?_eq_some_iff.mp ha).1
      refine ⟨t, _, rfl, sqT_of (ex _ _ ht), rfl, _, _, rfl, _, _, rfl, _, _, rfl, rfl, ?_⟩
      have hme : ("meter " : Str).length = 6 := by decide +kernel
      have hsp : (" " : Str).length = 1 := by decide +kernel
      have hse : (" sealed" : Str).length = 7 := by decide +kernel
      have hem : ("" : Str).length = 0 := by decide +kernel
      have ej : ("meter " : Str) ++ a.1 ++ " " ++ a.2.1 ++ (if a.2.2 then (" sealed" : Str) else "") = lineM a := TL.ext_tl (by
        unfold lineM
        rw [tl_joinT]
        have t0 : TL.tl ("meter " : Str) = TL.tl ("meter" : Str) ++ TL.tl SPC := by decide +kernel
        have t1 : TL.tl (" sealed" : Str) = TL.tl SPC ++ TL.tl ("sealed" : Str) := by decide +kernel
        have t2 : TL.tl ("" : Str) = [] := by decide +kernel
        cases hs : a.2.2 with
        | true =>
          simp only [if_true, TL.tl_append, partsM, hs, List.map_cons, List.map_nil, TL.joinL, List.append_assoc, t0, t1]
        | false =>
          simp only [if_false, Bool.false_eq_true, TL.tl_append, partsM, hs, List.map_cons, List.map_nil, TL.joinL, List.append_assoc, t0, t2, List.append_nil])
      refine s_app (v := .str (lineM a)) hR' (ev_var rfl) (ev_is (ev_op (ev_op (ev_op (ev_op ev_c (ev_var rfl) (rv_adS (by omega))) ev_c (rv_adS (by rw [len_app]; omega))) (ev_var rfl) (rv_adS (by rw [len_app, len_app]; omega))) (ev_if (v := .str (if a.2.2 then (" sealed" : Str) else "")) (et_B (ev_var rfl)) (fun hb => by rw [if_pos hb]; exact ev_c) (fun hb => by rw [if_neg (by rw [hb]; decide)]; exact ev_c)) (rv_adS (by
        rw [len_app, len_app, len_app]
        split <;> omega))) (congrArg V.str ej)) (by simp; omega) fun H2 e2 => ⟨⟨_, _, _, rfl⟩, (ex.trans e2).mut nR, ?_⟩
      rw [upd_same, List.take_succ, ha]
      simp
    · obtain ⟨⟨o3, o4, o5, rfl⟩, ex, hR'⟩ := q
      rw [← hl2, List.take_length] at hR'
      have et : Txt.join NLN (d.1.map lineP ++ d.2.map lineM) = textOf d := by
        unfold textOf itemsOf
        rw [List.map_append, List.map_map, List.map_map]
        rfl
      have hn1 : ("\n" : Str).length = 1 := by decide +kernel
      refine s_ret (D := { nx := _, rt := Q }) (ev_is (ev_joinT (ys := d.1.map lineP ++ d.2.map lineM) ev_c (ev_var rfl) (.inr (sqL_of hR')) ?_) (congrArg V.str et)) fun H2 e2 => k H2 (ex.trans e2)
      have hsum := sum_le (f := Str.length) (n := 36) (l := d.1.map lineP ++ d.2.map lineM) fun z hz => by
        rcases List.mem_append.mp hz with hz | hz
        · obtain ⟨a, ha, rfl⟩ := List.mem_map.mp hz
          exact line_len (hok (.inl a) (by unfold itemsOf; exact List.mem_append.mpr (.inl (List.mem_map.mpr ⟨a, ha, rfl⟩))))
        · obtain ⟨a, ha, rfl⟩ := List.mem_map.mp hz
          exact line_len (hok (.inr a) (by unfold itemsOf; exact List.mem_append.mpr (.inr (List.mem_map.mpr ⟨a, ha, rfl⟩))))
      rw [List.length_append, List.length_map, List.length_map] at hsum ⊢
      rw [hn1]
      show (List.map Str.length _).sum + _ ≤ _
      omega
theorem ok__law_number {P : Program} {w : World} {K : Fg} {mg : Str → Option Value} {base : Heap} (T : TX K mg) : CalA P w K mg base 2 (At.a K (.glo "_law_number")) (spNumber) [] := by
  obtain ⟨fd, F⟩ := (T.says.def_ 41 (d := d__law_number) rfl)
  refine cal_nox F sc__law_number (fun vs H Q E h => ?_) (fun _ _ _ _ _ _ us hl => match us, hl with | [_], _ => rfl) (fun cdv A outer s H vs Q E hr h => ?_)
  · obtain ⟨p, rfl, _⟩ := h
    rfl
  · refine ⟨_, (pss_cons (ps_if (pt_cmpR op_lt (pe_cal ((ok__law_draw T).cal (T.glo 65)) hr (by decide) (by rfl) (pa_cons (pv 0) (pa_cons pe_int pa_nil))) pe_int (nomark _)) (pss_one (ps_ret (pe_op op_sub (pe_cal ((ok__law_draw T).cal (T.glo 65)) hr (by decide) (by rfl) (pa_cons (pv 0) (pa_cons pe_int pa_nil))) pe_int))) pss_nil)
      (pss_one (ps_ret (pe_op op_add (pe_ix (ix_listk (K := K)) (pe_lst (pa_cons (pe_op op_pow pe_int pe_int) (pa_cons (pe_un un_neg (pe_op op_pow pe_int pe_int)) (pa_cons (pe_op op_pow pe_int pe_int) (pa_cons (pe_un un_neg (pe_op op_pow pe_int pe_int)) pa_nil))))) (pe_cal ((ok__law_draw T).cal (T.glo 65)) hr (by decide) (by rfl) (pa_cons (pv 0) (pa_cons pe_int pa_nil))) (fun _ _ => rfl)) (pe_cal ((ok__law_draw T).cal (T.glo 65)) hr (by decide) (by rfl) (pa_cons (pv 0) (pa_cons pe_int pa_nil))))))), ?_⟩
    obtain ⟨p, rfl, hp, k⟩ := h
    refine q_whenD (p := p) (tst_test (evd_L (evd_draw hp (ev_var rfl) ev_c (by decide) (by decide)) (fun _ _ => ev_c) fun x hx H2 b => ?_)) (fun H1 b1 hp1 => ?_) (fun H1 b1 hp1 => ?_)
    · obtain ⟨d, rfl, d0, d1⟩ := hx
      exact ⟨_, rv_I0, _, rfl⟩
    · refine s_retD (S := fun v => ∃ i, v = .int i ∧ Small i) (evd_L (evd_draw hp1 (ev_var rfl) ev_c (by decide) (by decide)) (fun _ _ => ev_c) fun x hx H2 b => ?_) fun v H2 b2 hp2 hv => ?_
      · obtain ⟨d, rfl, d0, d1⟩ := hx
        refine ⟨_, rv_I0, _, rfl, ?_, ?_⟩ <;> omega
      · obtain ⟨i, rfl, hi⟩ := hv
        exact k i H2 hi (b1.trans b2) hp2
    · refine s_retD (S := fun v => ∃ i, v = .int i ∧ Small i) (evd_LL (S1 := fun v => ∃ i, v = .int i ∧ -(10 ^ 30) ≤ i ∧ i ≤ 10 ^ 30) (S2 := Rng 3) (evd_opL (S := Rng 4) hp1 (el_lst (ea_cons (ev_op ev_c ev_c (rv_I ⟨by decide, by decide, by decide⟩)) (ea_cons (ev_un (ev_op ev_c ev_c (rv_I ⟨by decide, by decide, by decide⟩)) ru_neg) (ea_cons (ev_op ev_c ev_c (rv_I ⟨by decide, by decide, by decide⟩)) (ea_cons (ev_un (ev_op ev_c ev_c (rv_I ⟨by decide, by decide, by decide⟩)) ru_neg) ea_nil)))) (by show 4 ≤ 100000; decide)) (fun H2 e2 => evd_draw (hp1.ex e2) (ev_var rfl) ev_c (by decide) (by decide)) fun l y H2 hl hy => ?_) (fun H2 b2 hp2 => evd_draw hp2 (ev_var rfl) ev_c (by decide) (by decide)) fun x y hx hy H2 b2 => ?_) fun v H2 b2 hp2 hv => ?_
      · obtain ⟨d, rfl, d0, d1⟩ := hy
        have hd : d = 0 ∨ d = 1 ∨ d = 2 ∨ d = 3 := by omega
        rcases hd with rfl | rfl | rfl | rfl
        · exact ⟨_, rv_ixL (sqL_of hl) (atI_k (k := 0) rfl), _, rfl, by decide, by decide⟩
        · exact ⟨_, rv_ixL (sqL_of hl) (atI_k (k := 1) rfl), _, rfl, by decide, by decide⟩
        · exact ⟨_, rv_ixL (sqL_of hl) (atI_k (k := 2) rfl), _, rfl, by decide, by decide⟩
        · exact ⟨_, rv_ixL (sqL_of hl) (atI_k (k := 3) rfl), _, rfl, by decide, by decide⟩
      · obtain ⟨i, rfl, i0, i1⟩ := hx
        obtain ⟨d, rfl, d0, d1⟩ := hy
        refine ⟨_, rv_I0, _, rfl, ?_, ?_⟩ <;> omega
      · obtain ⟨i, rfl, hi⟩ := hv
        exact k i H2 hi (b1.trans b2) hp2

theorem evd_number {K : Fg} {p : Addr} {σ : L2.St} {H : Hp} {ta : TE} {E : XK} (hp : Pool H p) (h : Ev ta σ H (.ref p)) : EvD p (tCall spNumber [] E (tCons ta tNil)) σ H (fun v => ∃ i, v = .int i ∧ Small i) := fun H1 e Q q =>
  h H1 e _ fun H2 e2 => ⟨p, rfl, hp.ex (e.trans e2), fun i H3 hi b hp' => q _ H3 (e2.butT b) hp' ⟨i, rfl, hi⟩⟩
theorem evd_if {p : Addr} {σ : L2.St} {H : Hp} {t : TT} {ta tb : TE} {S : V → Prop} {R : Bool → Prop} (ht : ∀ H1, Ex H H1 → ∀ Q : Bool → Hp → Prop, (∀ b H2, But [p] H1 H2 → Pool H2 p → R b → Q b H2) → t σ H1 Q) (h1 : R true → ∀ H1, But [p] H H1 → Pool H1 p → EvD p ta σ H1 S) (h2 : R false → ∀ H1, But [p] H H1 → Pool H1 p → EvD p tb σ H1 S) : EvD p (tIf t ta tb) σ H S := fun H1 e Q q =>
  ht H1 e _ fun b H2 bt hp r => by
    cases b with
    | true =>
      show ta σ H2 Q
      exact h1 r H2 (e.butT bt) hp H2 (Ex.refl _) Q fun v H3 b3 hp3 s => q v H3 (bt.trans b3) hp3 s
    | false =>
      show tb σ H2 Q
      exact h2 r H2 (e.butT bt) hp H2 (Ex.refl _) Q fun v H3 b3 hp3 s => q v H3 (bt.trans b3) hp3 s

theorem ok__law_reading {P : Program} {w : World} {K : Fg} {mg : Str → Option Value} {base : Heap} (T : TX K mg) : CalA P w K mg base 3 (At.a K (.glo "_law_reading")) (spReading) [] := by
  obtain ⟨fd, F⟩ := (T.says.def_ 42 (d := d__law_reading) rfl)
  refine cal_nox F sc__law_reading (fun vs H Q E h => ?_) (fun _ _ _ _ _ _ us hl => match us, hl with | [_, _], _ => rfl) (fun cdv A outer s H vs Q E hr h => ?_)
  · obtain ⟨p, b, rfl, _⟩ := h
    rfl
  · refine ⟨_, (pss_one (ps_ret (pe_ifExp (PW.pt (pw_and (pt_cmpR op_eq (pe_cal ((ok__law_draw T).cal (T.glo 65)) hr (by decide) (by rfl) (pa_cons (pv 0) (pa_cons pe_int pa_nil))) pe_int (nomark _)) (pw_and1 (pt_not (pt_val (pv 1)))))) pe_non (pe_cal ((ok__law_number T).cal (T.glo 69)) hr (by decide) (by rfl) (pa_cons (pv 0) pa_nil))))), ?_⟩
    obtain ⟨p, b, rfl, hp, k⟩ := h
    refine s_retD (S := fun v => ∃ r, v = rdV r ∧ SmallO r ∧ (r = none → b = false)) (evd_if (R := fun c => c = true → b = false) (fun H1 e1 Qb qb => ?_) (fun hc H1 b1 hp1 => evd_ev hp1 ev_c ⟨none, rfl, trivial, fun _ => hc rfl⟩) (fun _ H1 b1 hp1 => (evd_number (K := K) hp1 (ev_var rfl)).imp fun v hv => by
      obtain ⟨i, rfl, hi⟩ := hv
      exact ⟨some i, rfl, hi, fun h => by cases h⟩)) fun v H1 b1 hp1 hv => ?_
    · refine (evd_L (S := Rng 4) (S' := fun v => ∃ c, v = .bl c) (evd_draw (hp.ex e1) (ev_var rfl) ev_c (by decide) (by decide)) (fun _ _ => ev_c) fun x hx H2 b2 => ?_) H1 (Ex.refl _) _ fun v H2 b2 hp2 hv => ?_
      · obtain ⟨d, rfl, d0, d1⟩ := hx
        exact ⟨_, rv_eq rfl, _, rfl⟩
      · obtain ⟨c, rfl⟩ := hv
        refine ⟨c, rfl, ?_⟩
        cases c with
        | true =>
          refine (et_not (et_B (ev_var (v := .bl b) rfl))) H2 (Ex.refl _) _ fun H3 e3 => qb _ H3 (b2.same e3) (hp2.ex e3) fun hb => ?_
          cases b with
          | true => cases hb
          | false => rfl
        | false => exact qb _ H2 b2 hp2 fun h => by cases h
    · obtain ⟨r, rfl, hs, hn⟩ := hv
      exact k r H1 hs hn b1 hp1
end RV

namespace RV
open PySem PySem.Spec PyProof.Rows L2 Evl


theorem seat_at {ms : List MetD} (h : (ms.map (·.1)).Nodup) {i : Nat} {m : MetD} (hm : ms[i]? = some m) : SeatAt ms m.1 i := by
  refine ⟨m, hm, rfl, fun j d' hj hd e => ?_⟩
  have h1 : (ms.map (·.1))[i]? = some m.1 := by rw [List.getElem?_map, hm]; rfl
  have h2 : (ms.map (·.1))[j]? = some d'.1 := by rw [List.getElem?_map, hd]; rfl
  have hi := (List.getElem?_eq_some_iff.mp h1).1
  have hj2 := (List.getElem?_eq_some_iff.mp h2).1
  have := nodup_get h hj2 hi (by rw [(List.getElem?_eq_some_iff.mp h1).2, (List.getElem?_eq_some_iff.mp h2).2]; exact e)
  omega
section
variable {K : Fg} {σ : L2.St} {H : Hp} {ta : TE} {a : Addr} {d : NetD} {rs : Rds} {past : List Rds} {E : XK}
theorem ev_deskRds {dx na tn tp : Addr} (h : Ev ta σ H (.ref a)) (hd : H a = some (.ins (He.ga K "Desk") dx (deskFs na tn tp))) : Ev (tProp (He.ga K "Desk") (spDeskRds K) [] E ta) σ H (.ref tn) := ev_prp h hd fun H1 e Q q E => ⟨a, dx, na, tn, tp, rfl, e _ _ hd, q⟩
theorem ev_deskNet {dx na tn tp : Addr} (h : Ev ta σ H (.ref a)) (hd : H a = some (.ins (He.ga K "Desk") dx (deskFs na tn tp))) : Ev (tProp (He.ga K "Desk") (spDeskNet K) [] E ta) σ H (.ref na) := ev_prp h hd fun H1 e Q q E => ⟨a, dx, na, tn, tp, rfl, e _ _ hd, q⟩
theorem ev_deskChs (h : Ev ta σ H (.ref a)) (hD : IsDesk K H a d rs past) : Ev (tProp (He.ga K "Desk") (spDeskChs K) [] E ta) σ H (.int (past.length : Nat)) := by
  obtain ⟨na, dx, tn, tp, xs, h1, _⟩ := id hD
  exact ev_prp h h1 fun H1 e Q q E => ⟨a, d, rs, past, rfl, hD.ex e, q⟩
theorem spv_deskLen (hD : IsDesk K H a d rs past) : SpV (spDeskLen K) [.ref a] H (.int ((rs.filter Option.isSome).length : Nat)) := fun H1 e Q q E => ⟨a, d, rs, past, rfl, hD.ex e, q⟩
theorem spv_deskGet (hD : IsDesk K H a d rs past) {s : Str} {j : Nat} {r : Option Int} (hs : SeatAt d.2 s j) (hj : rs[j]? = some r) : SpV (spDeskGet K) [.ref a, .str s] H (rdV r) := fun H1 e Q q E => ⟨a, d, rs, past, s, j, r, rfl, hD.ex e, hs, hj, q⟩
theorem spv_deskIn (hD : IsDesk K H a d rs past) (s : Str) : SpV (spDeskIn K) [.ref a, .str s] H (.bl (decide (s ∈ speaking d.2 rs))) := fun H1 e Q q E => ⟨a, d, rs, past, .str s, _, rfl, hD.ex e, .inl ⟨s, rfl, rfl⟩, q⟩
theorem spv_deskInN (hD : IsDesk K H a d rs past) {x : V} (hx : IsB K H x "str" false) : SpV (spDeskIn K) [.ref a, x] H (.bl false) := fun H1 e Q q E => ⟨a, d, rs, past, x, false, rfl, hD.ex e, .inr ⟨isB_ex hx e, rfl⟩, q⟩
end
theorem dp_ref {K : Fg} {H : Hp} {v : V} {ds : List PyData} (h : Dp K H v (.list ds)) : ∃ a, v = .ref a := by
  cases h with
  | lst hs _ => exact ⟨_, rfl⟩
theorem dp_rd {K : Fg} {H : Hp} (r : Option Int) : Dp K H (rdV r) (rdD r) := by
  cases r with
  | none => exact .non
  | some i => exact .int i
theorem small_abs {i : Int} (h : Small i) : i.natAbs < 10 ^ 40 := by
  obtain ⟨h1, h2⟩ := h
  have e : (10 : Nat) ^ 40 = 10000000000000000000000000000000000000000 := by decide
  rw [e]
  omega
theorem leaf_rd {r : Option Int} (h : SmallO r) : LeafOk (rdD r) := by
  cases r with
  | none => exact leaf_non
  | some i => exact leaf_int (small_abs h)
structure ToldOk (d : PyData) : Prop where
  sh : d.showable = true
  hd : d.hasDict = false
  dp : d.depth ≤ 60
  sz : d.shown.length ≤ sizeLine
theorem told_ok {as bs : List PyData} {p q : Int} (ha : FlatOk as) (hb : FlatOk bs) (hp : LeafOk (.int p)) (hq : LeafOk (.int q)) (la : as.length ≤ 100) (lb : bs.length ≤ 100) : ToldOk (.list [.tuple as, .int p, .int q, .list as, .list bs]) := by
  refine ⟨?_, ?_, ?_, ?_⟩
  · show (PyData.showableAll as && (PyData.showable (.int p) && (PyData.showable (.int q) && (PyData.showableAll as && (PyData.showableAll bs && true))))) = true
    rw [ha.sh, hb.sh, hp.sh, hq.sh]
    rfl
  · show (PyData.hasDictAll as || (false || (false || (PyData.hasDictAll as || (PyData.hasDictAll bs || false))))) = false
    rw [ha.hd, hb.hd]
    rfl
  · show max (PyData.depthAll as + 1) (max 0 (max 0 (max (PyData.depthAll as + 1) (max (PyData.depthAll bs + 1) 0)))) + 1 ≤ 60
    rw [ha.dp, hb.dp]
    decide
  · have h1 : PyData.leavesShort 41 (.list [.tuple as, .int p, .int q, .list as, .list bs]) = true := by
      show (PyData.leavesShortAll 41 as && (PyData.leavesShort 41 (.int p) && (PyData.leavesShort 41 (.int q) && (PyData.leavesShortAll 41 as && (PyData.leavesShortAll 41 bs && true))))) = true
      rw [ha.ls, hb.ls, hp.ls, hq.ls]
      rfl
    have h2 := PyData.shown_le_bulk 41 (by decide) _ h1
    have h3 : PyData.bulk (.list [.tuple as, .int p, .int q, .list as, .list bs]) = PyData.bulkAll as + 1 + (0 + 1 + (0 + 1 + (PyData.bulkAll as + 1 + (PyData.bulkAll bs + 1 + 0)))) := rfl
    rw [h3, ha.bk, hb.bk] at h2
    exact Nat.le_trans h2 (sz2 (by omega))
theorem all_false {α : Type} {f : α → Bool} {n : Nat} : ∀ {l : List α}, l.length = n → (∀ a ∈ l, f a = false) → l.map f = List.replicate n false
  | [], h, _ => by
    subst h
    rfl
  | a :: l, h, hf => by
    subst h
    rw [List.map_cons, hf a (List.mem_cons_self ..), all_false (f := f) (l := l) rfl fun x hx => hf x (List.mem_cons_of_mem _ hx)]
    rfl
theorem spk_name {d : NetD} {rs : Rds} {s : Str} (h : s ∈ speaking d.2 rs) : ∃ m ∈ d.2, m.1 = s := by
  unfold speaking at h
  obtain ⟨p, hp, e⟩ := List.mem_map.mp h
  exact ⟨p.1, (List.of_mem_zip (List.mem_filter.mp hp).1).1, e⟩
theorem met_name {d : NetD} (ok : AllOk d) {m : MetD} (h : m ∈ d.2) : nameOk m.1 = true :=
  (ok (.inr m) (by unfold itemsOf; exact List.mem_append.mpr (.inr (List.mem_map.mpr ⟨m, h, rfl⟩)))).1
theorem el_lcX {K : Fg} {σ : L2.St} {H : Hp} {te te2 : TE} {t : TT} {g : TG} {vs : List Nat} {zs : List V} {R : List V → Hp → Prop} (h : EvP te σ H fun v H2 => ∃ p xs, v = .ref p ∧ H2 p = some (.lst xs) ∧ R xs H2) (k : ∀ p xs H2, Ex H H2 → H2 p = some (.lst xs) → R xs H2 → EvL (tLc (iList K (tC (.ref p))) g t te2 vs) σ H2 zs) : EvL (tLc (iList K te) g t te2 vs) σ H zs := fun H1 e Q q =>
  h H1 e _ fun v H2 e2 ⟨p, xs, hv, hp, r⟩ => by
    subst hv
    exact k p xs H2 (e.trans e2) hp r H2 (Ex.refl _) Q fun l H3 nl e3 hl => q l H3 (fresh_back e2 nl) (e2.trans e3) hl
theorem eapn_nil {σ : L2.St} {H : Hp} {P : V → Hp → Prop} : EvAP tNil σ H fun vs H2 => vs.length = 0 ∧ ∀ v ∈ vs, P v H2 := fun H1 e Q q => q [] H1 (Ex.refl H1) ⟨rfl, fun v hv => by cases hv⟩
theorem eapn_cons {σ : L2.St} {H : Hp} {P : V → Hp → Prop} {ta : TE} {tr : TA} {n : Nat} (hm : Mon P) (h : EvP ta σ H P) (hr : EvAP tr σ H fun vs H2 => vs.length = n ∧ ∀ v ∈ vs, P v H2) : EvAP (tCons ta tr) σ H fun vs H2 => vs.length = n + 1 ∧ ∀ v ∈ vs, P v H2 := fun H1 e Q q =>
  h H1 e _ fun v H2 e2 p => hr H2 (e.trans e2) _ fun vs H3 e3 p' => q _ H3 (e2.trans e3) ⟨by rw [List.length_cons, p'.1], fun w hw => by
    rcases List.mem_cons.mp hw with rfl | hw
    · exact hm _ _ _ e3 p
    · exact p'.2 w hw⟩
theorem evp_lstN {σ : L2.St} {H : Hp} {P : V → Hp → Prop} {tr : TA} {n : Nat} (hm : Mon P) (h : EvAP tr σ H fun vs H2 => vs.length = n ∧ ∀ v ∈ vs, P v H2) (hn : n ≤ 100000) : EvP (tLst tr) σ H fun v H2 => ∃ p xs, v = .ref p ∧ H2 p = some (.lst xs) ∧ (xs.length = n ∧ ∀ v ∈ xs, P v H2) := fun H1 e Q q =>
  h H1 e _ fun vs H2 e2 p => ⟨sz_of (by omega), fun l nl => q _ _ (e2.trans (same_new nl)) ⟨l, vs, rfl, upd_same, p.1, fun w hw => hm _ _ _ (same_new nl) (p.2 w hw)⟩⟩
def spDR (K : Fg) : Sp := fun vs H Q _ => ∃ (dk g L M S : Addr) (d : NetD) (rs : Rds) (past : List Rds), vs = [.ref dk, .ref g, .ref L, .ref M, .ref S, .int (past.length : Nat)] ∧ IsDesk K H dk d rs past ∧ IsNet K H g d ∧ LinesAt H L d.1 ∧ DialsAt H M d.2 ∧ H S = some (.lst (rdsV rs)) ∧ (∀ r ∈ rs, SmallO r) ∧
  ∀ H', Ex H H' → Q (.bl true) H'

theorem ok__law_desk_right {P : Program} {w : World} {K : Fg} {mg : Str → Option Value} {base : Heap} (T : TX K mg) : CalG P w K mg base 8 (At.a K (.glo "_law_desk_right")) (spDR K) := by
  obtain ⟨fd, F⟩ := (T.says.def_ 43 (d := d__law_desk_right) rfl)
  refine calG_nox F sc__law_desk_right (fun vs H Q E h => ?_) (fun _ _ _ _ _ _ us hl => match us, hl with | [_, _, _, _, _, _], _ => rfl) (fun cdv A outer s H vs Q E hg hr h => ?_)
  · obtain ⟨dk, g, L, M, S, d, rs, past, rfl, _⟩ := h
    rfl
  · refine ⟨_, (pss_cons (ps_set (i := 6) sc__law_desk_right.nd rfl (by first | exact Or.inl rfl | exact Or.inr rfl) (pe_lc (own := [("_law_dial", 10)]) (by rfl) sc__law_desk_right.nd (pi_listk (K := K) (pv 3)) (blkOk_by (own := [("_law_dial", 10)]) (by kernel_rfl)) (fun _ _ _ _ _ => (pg_name (i := 10) sc__law_desk_right.nd rfl (by first | exact Or.inl rfl | exact Or.inr rfl))) (fun _ _ _ _ _ => pts_nil) (fun _ _ _ _ _ => (pe_ix (ix_tupk (K := K)) (pv 10) pe_int (fun _ _ => rfl)))))
      (pss_cons (ps_set (i := 7) sc__law_desk_right.nd rfl (by first | exact Or.inl rfl | exact Or.inr rfl) (pe_lc (own := [("_law_k", 11)]) (by rfl) sc__law_desk_right.nd (pi_range1 (by rfl) (T.free 66) (pa_cons (pe_callB (id := "len") (call_len_seqk (K := K)) (by rfl) (T.free 4) (by decide +kernel) (pa_cons (pv 6) pa_nil)) pa_nil)) (blkOk_by (own := [("_law_k", 11)]) (by kernel_rfl)) (fun _ _ _ _ _ => (pg_name (i := 11) sc__law_desk_right.nd rfl (by first | exact Or.inl rfl | exact Or.inr rfl))) (fun _ _ _ _ _ => pts_one (pt_cmpR op_notN (pe_ix (ix_listk (K := K)) (pv 4) (pv 11) (fun _ _ => rfl)) pe_non (nomark _))) (fun _ _ _ _ _ => (pe_ix (ix_listk (K := K)) (pv 6) (pv 11) (fun _ _ => rfl)))))
      (pss_cons (ps_set (i := 8) sc__law_desk_right.nd rfl (by first | exact Or.inl rfl | exact Or.inr rfl) (pe_lst (pa_cons (pe_prp (prp_of (T.cls 50) (T.prp 74) (ok_Desk_readings T)) hr (by decide) (pv 0) rfl) (pa_cons (pe_prp (prp_of (T.cls 50) (T.prp 73) (ok_Desk_changes T)) hr (by decide) (pv 0) rfl) (pa_cons (pe_callB (id := "len") (call_lenO (opm_of (T.opm 72) (ok_Desk___len__ T)) hr (by decide)) (by rfl) (T.free 4) (by decide +kernel) (pa_cons (pv 0) pa_nil)) (pa_cons (pe_lc (own := [("_law_tag", 12)]) (by rfl) sc__law_desk_right.nd (pi_listk (K := K) (pv 6)) (blkOk_by (own := [("_law_tag", 12)]) (by kernel_rfl)) (fun _ _ _ _ _ => (pg_name (i := 12) sc__law_desk_right.nd rfl (by first | exact Or.inl rfl | exact Or.inr rfl))) (fun _ _ _ _ _ => pts_nil) (fun _ _ _ _ _ => (pe_getO (opm_of (T.opm 71) (ok_Desk___getitem__ T)) hr (by decide) (pv 0) (pv 12)))) (pa_cons (pe_lc (own := [("_law_tag", 12)]) (by rfl) sc__law_desk_right.nd (pi_listk (K := K) (pv 6)) (blkOk_by (own := [("_law_tag", 12)]) (by kernel_rfl)) (fun _ _ _ _ _ => (pg_name (i := 12) sc__law_desk_right.nd rfl (by first | exact Or.inl rfl | exact Or.inr rfl))) (fun _ _ _ _ _ => pts_nil) (fun _ _ _ _ _ => (pe_cmpR (op_inO (opm_of (T.opm 70) (ok_Desk___contains__ T)) hr (by decide)) (pv 12) (pv 0) (by rfl)))) pa_nil)))))))
      (pss_cons (ps_set (i := 9) sc__law_desk_right.nd rfl (by first | exact Or.inl rfl | exact Or.inr rfl) (pe_lst (pa_cons (pe_callTy (T := "tuple") (call_tuple_ofk (K := K)) (by rfl) (T.free 15) (by decide +kernel) (pa_cons (pv 4) pa_nil)) (pa_cons (pv 5) (pa_cons (pe_callB (id := "len") (call_len_seqk (K := K)) (by rfl) (T.free 4) (by decide +kernel) (pa_cons (pv 7) pa_nil)) (pa_cons (pv 4) (pa_cons (pe_lc (own := [("_law_tag", 12)]) (by rfl) sc__law_desk_right.nd (pi_listk (K := K) (pv 6)) (blkOk_by (own := [("_law_tag", 12)]) (by kernel_rfl)) (fun _ _ _ _ _ => (pg_name (i := 12) sc__law_desk_right.nd rfl (by first | exact Or.inl rfl | exact Or.inr rfl))) (fun _ _ _ _ _ => pts_nil) (fun _ _ _ _ _ => (pe_cmpR (op_in_seqk (K := K)) (pv 12) (pv 7) (by rfl)))) pa_nil)))))))
      (pss_cons (ps_if (PW.pt (pw_or (pt_cmpR op_ne (pe_callB (id := "repr") (call_reprk (K := K) hg hr.units) (by rfl) (T.free 75) (by decide +kernel) (pa_cons (pv 8) pa_nil)) (pe_callB (id := "repr") (call_reprk (K := K) hg hr.units) (by rfl) (T.free 75) (by decide +kernel) (pa_cons (pv 9) pa_nil)) (nomark _)) (pw_or (pt_cmpR (op_neOk (K := K) (opq_of (T.eqo 78) (ok_Net___eq__ T)) hr (by decide)) (pe_prp (prp_of (T.cls 50) (T.prp 76) (ok_Desk_net T)) hr (by decide) (pv 0) rfl) (pv 1) (nomark _)) (pw_or1 (pt_not (pt_truO (opm_of (T.opm 79) (ok_Desk___bool__ T)) hr (by decide) (pv 0))))))) (pss_one (ps_ret pe_bl)) pss_nil)
      (pss_cons (ps_if (pt_cmpR (op_neDk (K := K) hr.units) (pe_lc (own := [("_law_line", 13)]) (by rfl) sc__law_desk_right.nd (pi_listk (K := K) (pv 2)) (blkOk_by (own := [("_law_line", 13)]) (by kernel_rfl)) (fun _ _ _ _ _ => (pg_name (i := 13) sc__law_desk_right.nd rfl (by first | exact Or.inl rfl | exact Or.inr rfl))) (fun _ _ _ _ _ => pts_nil) (fun _ _ _ _ _ => (pe_cmpR (op_inO (opm_of (T.opm 70) (ok_Desk___contains__ T)) hr (by decide)) (pe_ix (ix_tupk (K := K)) (pv 13) pe_int (fun _ _ => rfl)) (pv 0) (by rfl)))) (pe_lc (own := [("_law_line", 13)]) (by rfl) sc__law_desk_right.nd (pi_listk (K := K) (pv 2)) (blkOk_by (own := [("_law_line", 13)]) (by kernel_rfl)) (fun _ _ _ _ _ => (pg_name (i := 13) sc__law_desk_right.nd rfl (by first | exact Or.inl rfl | exact Or.inr rfl))) (fun _ _ _ _ _ => pts_nil) (fun _ _ _ _ _ => (pe_cmpR (op_in_seqk (K := K)) (pe_ix (ix_tupk (K := K)) (pv 13) pe_int (fun _ _ => rfl)) (pv 7) (by rfl)))) (nomark _)) (pss_one (ps_ret pe_bl)) pss_nil)
      (pss_one (ps_ret (pe_cmpR (op_eqDk (K := K) hr.units) (pe_lc (own := [("_law_thing", 14)]) (by rfl) sc__law_desk_right.nd (pi_listk (K := K) (pe_lst (pa_cons pe_non (pa_cons pe_int (pa_cons pe_bl (pa_cons pe_str (pa_cons pe_str (pa_cons (pe_tup pa_nil) (pa_cons (pv 6) (pa_cons pe_dnewK (pa_cons (pv 1) (pa_cons (pv 0) pa_nil)))))))))))) (blkOk_by (own := [("_law_thing", 14)]) (by kernel_rfl)) (fun _ _ _ _ _ => (pg_name (i := 14) sc__law_desk_right.nd rfl (by first | exact Or.inl rfl | exact Or.inr rfl))) (fun _ _ _ _ _ => pts_nil) (fun _ _ _ _ _ => (pe_cmpR (op_inO (opm_of (T.opm 70) (ok_Desk___contains__ T)) hr (by decide)) (pv 14) (pv 0) (by rfl)))) (pe_op op_rep (pe_lst (pa_cons pe_bl pa_nil)) pe_int) (nomark _)))))))))), ?_⟩
    obtain ⟨dk, g, L, M, S, d, rs, past, rfl, hD, hG, hL, hM, hS, hsm, k⟩ := h
    obtain ⟨na, dx, tn, tp, xs, h1, h2, h3, h4, h5, h6, h7⟩ := id hD
    have hall := h2.ok
    obtain ⟨ok, _⟩ := id h2
    have hl12 := ok.2.1
    have hnd := ok.2.2.1
    obtain ⟨zs, hMz, hEz⟩ := id hM
    have hlz := Each.len hEz
    obtain ⟨ys, hLy, hEy⟩ := id hL
    have hly := Each.len hEy
    have hp12 := ok.1.2.1
    have hrl : (rdsV rs).length = rs.length := by unfold rdsV; rw [List.length_map]
    refine q_asgL (xs := (d.2.map (·.1)).map V.str) (by
      rw [List.map_map]
      refine el_lc1 (xs := zs) d.2 _ (evs_list (ev_var rfl) (sqL_of hMz)) hlz.symm (by omega) (fun _ => rfl) fun i x a H2 e2 hx ha => ?_
      obtain ⟨t, rfl, ht⟩ := Each.mem hEz i a x ha hx
      exact ev_op (ev_var rfl) ev_c (rv_ixT (sqT_of (e2 _ _ ht)) (atI_k (k := 0) rfl))) fun TG H1 nTG e1 hTG => ?_
    have htl : ((d.2.map (·.1)).map V.str).length = d.2.length := by simp
    have hS1 := e1 _ _ hS
    have tagAt : ∀ (i : Nat) (m : MetD), d.2[i]? = some m → ((d.2.map (·.1)).map V.str)[i]? = some (.str m.1) := fun i m hm => by
      rw [List.getElem?_map, List.getElem?_map, hm]
      rfl
    refine q_asgL (xs := (speaking d.2 rs).map V.str) (by
      unfold speaking
      rw [List.map_map]
      refine el_lc (xs := (List.range d.2.length).map fun i => V.int (i : Nat)) (d.2.zip rs) (fun p => p.2.isSome) _ (evs_range (ea_cons (ev_is (ev_cb (ea_cons (ev_var rfl) ea_nil) (rc_lenL (sqL_of hTG))) (by rw [htl])) ea_nil) (by omega)) (by rw [List.length_map, List.length_range, List.length_zip]; omega) (by rw [List.length_map, List.length_range]; omega) (fun _ => rfl) fun i x p H2 e2 hx hp => ?_
      obtain ⟨m, r⟩ := p
      obtain ⟨hm, hr3⟩ := List.getElem?_zip_eq_some.mp hp
      have hil : i < d.2.length := (List.getElem?_eq_some_iff.mp hm).1
      have ex : x = .int (i : Nat) := by
        rw [List.getElem?_map, List.getElem?_range hil] at hx
        exact (Option.some.inj hx).symm
      subst ex
      exact ⟨et_is (et_test (ev_op (ev_op (ev_var rfl) (ev_var rfl) (rv_ixL (sqL_of (e2 _ _ hS1)) (atI_k (v := rdV r) (by unfold rdsV; rw [List.getElem?_map, hr3]; rfl)))) ev_c rv_notN)) (by rw [rdV_non, Bool.not_not]), fun _ => ev_op (ev_var rfl) (ev_var rfl) (rv_ixL (sqL_of (e2 _ _ hTG)) (atI_k (tagAt i m hm)))⟩) fun SP H2 nSP e2 hSP => ?_
    have hTG2 := e2 _ _ hTG
    have e12 := e1.trans e2
    have hD2 := hD.ex e12
    have h12 := e12 _ _ h1
    have spl : (speaking d.2 rs).length = (rs.filter Option.isSome).length := by
      unfold speaking
      rw [List.length_map]
      exact filter_zip h6
    have hfl : (rs.filter Option.isSome).length ≤ 100 := by
      have := List.length_filter_le Option.isSome rs
      omega
    let B : List Bool := (d.2.map (·.1)).map fun t => decide (t ∈ speaking d.2 rs)
    have bools : B.map V.bl = (d.2.map (·.1)).map fun t => V.bl (decide (t ∈ speaking d.2 rs)) := by
      show List.map V.bl (List.map _ _) = _
      rw [List.map_map]
      rfl
    have tagIn : ∀ (i : Nat) (x : V) (t : Str), ((d.2.map (·.1)).map V.str)[i]? = some x → (d.2.map (·.1))[i]? = some t → x = .str t := fun i x t hx ht => by
      rw [List.getElem?_map, ht] at hx
      exact (Option.some.inj hx).symm
    let A : List PyData := rs.map rdD
    let DD : PyData := .list [.tuple A, .int (past.length : Nat), .int ((rs.filter Option.isSome).length : Nat), .list A, .list (B.map PyData.bool)]
    refine q_asgP (P := fun v H2 => Dp K H2 v DD) (ex_lst (exs_cons (ex_ev (ev_deskRds (ev_var rfl) h12) (.tup (sqT_of (e12 _ _ h3)) (by unfold rdsV; exact dpAll_map dp_rd rs))) (exs_cons (ex_ev (ev_deskChs (ev_var rfl) hD2) (.int _)) (exs_cons (ex_ev (ev_lenO (ev_var rfl) h12 (by omega) (spv_deskLen hD2)) (.int _)) (exs_cons (ex_lN (xs := rs.map rdV) (el_lc1 (xs := (d.2.map (·.1)).map V.str) rs rdV (evs_list (ev_var rfl) (sqL_of hTG2)) (by rw [htl, h6]) (by rw [htl]; omega) (fun _ => rfl) fun i x r H3 e3 hx hr3 => ?_) (dpAll_map dp_rd rs)) (exs_cons (ex_lN (xs := (d.2.map (·.1)).map fun t => V.bl (decide (t ∈ speaking d.2 rs))) (el_lc1 (xs := (d.2.map (·.1)).map V.str) (d.2.map (·.1)) (fun t => V.bl (decide (t ∈ speaking d.2 rs))) (evs_list (ev_var rfl) (sqL_of hTG2)) (by rw [List.length_map]) (by rw [htl]; omega) (fun _ => rfl) fun i x t H3 e3 hx ht => ?_) (by rw [← bools]; exact dpAll_map (fun b => .bl b) B)) exs_nil))))) (by show 5 ≤ 100000; decide)) fun v H3 e3 hv => ?_
    · have hil : i < d.2.length := by
        have := (List.getElem?_eq_some_iff.mp hr3).1
        omega
      have hm : d.2[i]? = some d.2[i] := by simp [hil]
      rw [tagAt i _ hm] at hx
      cases hx
      exact ev_op (ev_var rfl) (ev_var rfl) (rv_getO (e3 _ _ h12) (spv_deskGet (hD2.ex e3) (seat_at hnd hm) hr3))
    · have := tagIn i x t hx ht
      subst this
      exact ev_op (ev_var rfl) (ev_var rfl) (rv_inO (e3 _ _ h12) (spv_deskIn (hD2.ex e3) t))
    have e13 := e12.trans e3
    have hTG3 := e3 _ _ hTG2
    have hSP3 := e3 _ _ hSP
    obtain ⟨td, rfl⟩ : ∃ a, v = V.ref a := dp_ref hv
    refine q_asgP (P := fun v H2 => Dp K H2 v DD) (ex_lst (exs_cons (ex_tN (eu_tupOf (ev_var rfl) (sqL_of (e13 _ _ hS))) (by unfold rdsV; exact dpAll_map dp_rd rs)) (exs_cons (ex_ev (ev_var rfl) (.int _)) (exs_cons (ex_ev (ev_is (ev_cb (ea_cons (ev_var rfl) ea_nil) (rc_lenL (sqL_of hSP3))) (by rw [List.length_map, spl])) (.int _)) (exs_cons (ex_ev (ev_var rfl) (.lst (sqL_of (e13 _ _ hS)) (by unfold rdsV; exact dpAll_map dp_rd rs))) (exs_cons (ex_lN (xs := (d.2.map (·.1)).map fun t => V.bl (decide (t ∈ speaking d.2 rs))) (el_lc1 (xs := (d.2.map (·.1)).map V.str) (d.2.map (·.1)) (fun t => V.bl (decide (t ∈ speaking d.2 rs))) (evs_list (ev_var rfl) (sqL_of hTG3)) (by rw [List.length_map]) (by rw [htl]; omega) (fun _ => rfl) fun i x t H4 e4 hx ht => ?_) (by rw [← bools]; exact dpAll_map (fun b => .bl b) B)) exs_nil))))) (by show 5 ≤ 100000; decide)) fun v H4 e4 hw => ?_
    · have := tagIn i x t hx ht
      subst this
      exact ev_is (ev_op (ev_var rfl) (ev_var rfl) (rv_isL (sqL_of (e4 _ _ hSP3)) rfl flat_strs)) (by rw [inV_str])
    obtain ⟨du, rfl⟩ : ∃ a, v = V.ref a := dp_ref hw
    have e14 := e13.trans e4
    have hv4 := dp_ex e4 hv
    have hBl : (B.map PyData.bool).length ≤ 100 := by
      show (List.map _ (List.map _ (List.map _ _))).length ≤ 100
      rw [List.length_map, List.length_map, List.length_map]
      omega
    have hAl : A.length ≤ 100 := by
      show (List.map _ _).length ≤ 100
      rw [List.length_map]
      omega
    have TD : ToldOk DD := told_ok (flat_ok fun x hx => by
      obtain ⟨r, hr3, rfl⟩ := List.mem_map.mp hx
      exact leaf_rd (hsm r hr3)) (flat_ok fun x hx => by
      obtain ⟨b, _, rfl⟩ := List.mem_map.mp hx
      exact leaf_bool b) (leaf_int (Nat.lt_of_le_of_lt (show (past.length : Int).natAbs ≤ 1000 by omega) (by decide))) (leaf_int (Nat.lt_of_le_of_lt (show ((rs.filter Option.isSome).length : Int).natAbs ≤ 1000 by omega) (by decide))) hAl hBl
    have hD4 := hD.ex e14
    have hG4 := hG.fz (K := K) e14.fz
    obtain ⟨_, dn, _, _, _, _, hN1, _⟩ := id h2
    obtain ⟨_, dg, _, _, _, _, hG1, _⟩ := id hG
    refine q_when (b := false) (et_is (et_or (et_test (ev_op (ev_repr (ev_var rfl) hv4 TD.sh TD.hd TD.dp TD.sz) (ev_repr (ev_var rfl) hw TD.sh TD.hd TD.dp TD.sz) (rv_ne rfl))) fun _ => et_or (et_test (ev_op (ev_deskNet (ev_var rfl) (e14 _ _ h1)) (ev_var rfl) (z := .bl (!decide (textOf d = textOf d))) fun H5 e5 Qn qn => ⟨na, dn, _, g, _, dg, _, rfl, (e14.trans e5) _ _ hN1, rfl, (e14.trans e5) _ _ hG1, nf_self, na, .ref g, d, _, rfl, h2.fz (e14.trans e5).fz, .inr ⟨d, ⟨g, rfl, hG.fz (e14.trans e5).fz⟩, rfl⟩, fun H6 e6 => ⟨_, rfl, qn H6 e6⟩⟩)) fun _ => et_not (et_truO (ev_var rfl) (e14 _ _ h1) (b := true) fun H5 e5 Qn qn E => ⟨dk, rfl, qn⟩)) (by simp)) (fun h => by cases h) fun _ H5 e5 => ?_
    have e15 := e14.trans e5
    have hD5 := hD.ex e15
    have h15 := e15 _ _ h1
    let BL : List Bool := d.1.map fun a => decide (a.1 ∈ speaking d.2 rs)
    have boolsL : (d.1.map fun a => V.bl (decide (a.1 ∈ speaking d.2 rs))) = BL.map V.bl := by
      show _ = List.map V.bl (List.map _ _)
      rw [List.map_map]
      rfl
    have rowAt : ∀ (i : Nat) (x : V) (a : PipeD) (H6 : Hp), Ex H5 H6 → ys[i]? = some x → d.1[i]? = some a → ∃ t, x = .ref t ∧ H6 t = some (.tup [.str a.1, .str a.2.1, .str a.2.2]) := fun i x a H6 e6 hx ha => by
      obtain ⟨t, rfl, ht⟩ := Each.mem hEy i a x ha hx
      exact ⟨t, rfl, (e15.trans e6) _ _ ht⟩
    refine q_when (b := false) (et_is (et_test (ev_opLL (xs := d.1.map fun a => V.bl (decide (a.1 ∈ speaking d.2 rs))) (ys := d.1.map fun a => V.bl (decide (a.1 ∈ speaking d.2 rs))) (el_lc1 (xs := ys) d.1 (fun a => V.bl (decide (a.1 ∈ speaking d.2 rs))) (evs_list (ev_var rfl) (sqL_of (e15 _ _ hLy))) hly.symm (by omega) (fun _ => rfl) fun i x a H6 e6 hx ha => ?_) (el_lc1 (xs := ys) d.1 (fun a => V.bl (decide (a.1 ∈ speaking d.2 rs))) (evs_list (ev_var rfl) (sqL_of (e15 _ _ hLy))) hly.symm (by omega) (fun _ => rfl) fun i x a H6 e6 hx ha => ?_) fun p q H6 hp hq e6 => rv_neL hp hq boolsL boolsL)) (by rw [eqv_bools]; rfl)) (fun h => by cases h) fun _ H6 e6 => ?_
    · obtain ⟨t, rfl, ht⟩ := rowAt i x a H6 e6 hx ha
      exact ev_op (ev_op (ev_var rfl) ev_c (rv_ixT (sqT_of ht) (atI_k (k := 0) rfl))) (ev_var rfl) (rv_inO (e6 _ _ h15) (spv_deskIn (hD5.ex e6) a.1))
    · obtain ⟨t, rfl, ht⟩ := rowAt i x a H6 e6 hx ha
      exact ev_is (ev_op (ev_op (ev_var rfl) ev_c (rv_ixT (sqT_of ht) (atI_k (k := 0) rfl))) (ev_var rfl) (rv_isL (sqL_of ((e4.trans (e5.trans e6)) _ _ hSP3)) rfl flat_strs)) (by rw [inV_str])
    have e16 := e15.trans e6
    have h16 := e16 _ _ h1
    have hD6 := hD.ex e16
    let PX : V → Hp → Prop := fun v H2 => (∃ z, v = .str z ∧ z ∉ speaking d.2 rs) ∨ IsB K H2 v "str" false
    have mPX : Mon PX := fun v H1 H2 e h => by
      rcases h with h | h
      · exact .inl h
      · exact .inr (isB_ex h e)
    have notIn : ∀ z : Str, nameOk z = false → z ∉ speaking d.2 rs := fun z hz hm => by
      obtain ⟨m, hm, e⟩ := spk_name hm
      have := met_name hall hm
      rw [e, hz] at this
      cases this
    have rep : (List.replicate 10 [V.bl false]).flatten = (List.replicate 10 false).map V.bl := rfl
    refine s_ret (D := { nx := _, rt := Q }) (v := .bl true) (ev_is (ev_opLL (xs := (List.replicate 10 false).map V.bl) (ys := (List.replicate 10 [V.bl false]).flatten) (el_lcX (evp_lstN mPX (eapn_cons mPX (fun H7 e7 Qx qx => ev_c H7 e7 Qx fun H8 e8 => qx _ _ e8 (.inr ⟨_, .base .non, kit_ty (by decide +kernel)⟩)) (eapn_cons mPX (fun H7 e7 Qx qx => ev_c H7 e7 Qx fun H8 e8 => qx _ _ e8 (.inr ⟨_, .base (.int _), kit_ty (by decide +kernel)⟩)) (eapn_cons mPX (fun H7 e7 Qx qx => ev_c H7 e7 Qx fun H8 e8 => qx _ _ e8 (.inr ⟨_, .base (.bl _), kit_ty (by decide +kernel)⟩)) (eapn_cons mPX (fun H7 e7 Qx qx => ev_c H7 e7 Qx fun H8 e8 => qx _ _ e8 (.inl ⟨_, rfl, notIn _ (by decide +kernel)⟩)) (eapn_cons mPX (fun H7 e7 Qx qx => ev_c H7 e7 Qx fun H8 e8 => qx _ _ e8 (.inl ⟨_, rfl, notIn _ (by decide +kernel)⟩)) (eapn_cons mPX (fun H7 e7 Qx qx => (evp_T (eu_tup ea_nil (by decide))) H7 e7 Qx fun v H8 e8 hv => qx _ _ e8 (.inr (by
      obtain ⟨t, rfl, ht⟩ := hv
      exact ⟨_, .base (.tup ht), kit_ty (by decide +kernel)⟩))) (eapn_cons mPX (fun H7 e7 Qx qx => ev_var rfl H7 e7 Qx fun H8 e8 => qx _ _ e8 (.inr ⟨_, .base (.lst ((((e2.trans e3).trans e4).trans ((e5.trans e6).trans (e7.trans e8))) _ _ hTG)), kit_ty (by decide +kernel)⟩)) (eapn_cons mPX (fun H7 e7 Qx qx => fun t nt => qx _ _ (same_new nt) (.inr ⟨_, .base (.dK upd_same), kit_ty (by decide +kernel)⟩)) (eapn_cons mPX (fun H7 e7 Qx qx => ev_var rfl H7 e7 Qx fun H8 e8 => qx _ _ e8 (.inr (isB_ins ((e16.trans (e7.trans e8)) _ _ hG1) (T.cls 36) (T.ins 45) (T.kitC 80)))) (eapn_cons mPX (fun H7 e7 Qx qx => ev_var rfl H7 e7 Qx fun H8 e8 => qx _ _ e8 (.inr (isB_ins ((e16.trans (e7.trans e8)) _ _ h1) (T.cls 50) (T.ins 81) (T.kitC 82)))) eapn_nil)))))))))) (by decide)) fun p xs7 H7 e7 hp hx7 => ?_) (el_rep (n := 10) (el_lst (ea_cons ev_c ea_nil) (by show 1 ≤ 100000; decide)) ev_c (by show 1 * 10 ≤ 100000; decide) (by decide)) fun p q H7 hp hq e7 => rv_eqL hp hq rfl rep) (by rw [eqv_bools])) fun H7 e7 => k H7 (e16.trans e7)
    obtain ⟨hx10, hxa⟩ := hx7
    have e8 : (List.replicate 10 false).map V.bl = xs7.map fun _ => V.bl false := by
      rw [List.map_const', List.map_replicate, hx10]
    rw [e8]
    refine el_lc1 (xs := xs7) xs7 (fun _ => V.bl false) (evs_list ev_c (sqL_of hp)) rfl (by omega) (fun _ => rfl) fun i x a H8 e8 hx ha => ?_
    cases hx.symm.trans ha
    rcases hxa x (List.mem_of_getElem? hx) with ⟨z, rfl, hz⟩ | hz
    · exact ev_is (ev_op (ev_var rfl) (ev_var rfl) (rv_inO ((e7.trans e8) _ _ h16) (spv_deskIn (hD6.ex (e7.trans e8)) z))) (by rw [decide_eq_false hz])
    · exact ev_op (ev_var rfl) (ev_var rfl) (rv_inO ((e7.trans e8) _ _ h16) (spv_deskInN (hD6.ex (e7.trans e8)) (isB_ex hz e8)))
end RV

namespace RV
open PySem PySem.Spec PyProof.Rows L2 Evl


section
variable {K : Fg} {σ : L2.St} {H : Hp} {ta tb te : TE} {v i : V} {a : Addr} {D : Ends} {g : TG} {tz : TS}
theorem g_setO {C dx : Addr} {fs : List (Str × V)} {sp : Sp} {Q : L2.St → Hp → Prop} (ho : Ev ta σ H (.ref a)) (hi : Ev tb σ H i) (hH : H a = some (.ins C dx fs)) (hs : ∀ H1, Ex H H1 → sp [.ref a, i, v] H1 (fun _ H' => Q σ H') E0) : gSub ta tb (rSetO C sp) v σ H Q :=
  ho H (Ex.refl H) _ fun H1 e1 => hi H1 e1 _ fun H2 e2 => ⟨a, dx, fs, rfl, (e1.trans e2) _ _ hH, hs H2 (e1.trans e2)⟩
theorem s_asgG (h : Ev te σ H v) (k : ∀ H1, Ex H H1 → g v σ H1 fun σ' H' => D.nx σ' H') : tAsg te g D σ H := h H (Ex.refl H) _ k
theorem q_asgG (h : Ev te σ H v) (k : ∀ H1, Ex H H1 → g v σ H1 fun σ' H' => tz D σ' H') : tSeq (tAsg te g) tz D σ H := h H (Ex.refl H) _ k
end

theorem ok__law_set {P : Program} {w : World} {K : Fg} {mg : Str → Option Value} {base : Heap} (T : TX K mg) : CalA P w K mg base 6 (At.a K (.glo "_law_set")) (spDeskSet K) [] := by
  obtain ⟨fd, F⟩ := (T.says.def_ 44 (d := d__law_set) rfl)
  refine cal_nox F sc__law_set (fun vs H Q E h => ?_) (fun _ _ _ _ _ _ us hl => match us, hl with | [_, _, _], _ => rfl) (fun cdv A outer s H vs Q E hr h => ?_)
  · obtain ⟨a, d, rs, past, s, j, r, m, rfl, _⟩ := h
    rfl
  · refine ⟨_, (pss_one (ps_asg (pv 2) (pg_sub (pv 0) (pv 1) (set_own (opm_of (T.opm 83) (ok_Desk___setitem__ T)) (T.noseq 84) hr (by decide))))), ?_⟩
    obtain ⟨a, d, rs, past, s, j, r, m, rfl, hD, hp, hs, hm, hr2, k⟩ := h
    obtain ⟨na, dx, tn, tp, xs, h1, _⟩ := id hD
    exact s_asgG (D := { nx := _, rt := Q }) (ev_var (i := 2) rfl) fun H1 e1 => g_setO (ev_var rfl) (ev_var rfl) (e1 _ _ h1) fun H2 e2 => ⟨a, d, rs, past, s, j, r, m, rfl, hD.ex (e1.trans e2), hp, hs, hm, hr2, fun H' b hD' => k H' ((e1.trans e2).butT b) hD'⟩

/-- the things that a turn knows -/
structure TS2 (K : Fg) (L M g B N S : Addr) (s dk : Nat → Addr) (d : NetD) (rl rs : Nat → Rds) (nn : Nat → Nat) (pa : Nat → List Rds) (H : Hp) : Prop where
  hL : LinesAt H L d.1
  hM : DialsAt H M d.2
  hG : IsNet K H g d
  hB : H B = some (.lst [.ref (dk 0), .ref (dk 1)])
  hS : H S = some (.lst [.ref (s 0), .ref (s 1)])
  hN : H N = some (.lst [.int (nn 0 : Nat), .int (nn 1 : Nat)])
  hs0 : H (s 0) = some (.lst (rdsV (rl 0)))
  hs1 : H (s 1) = some (.lst (rdsV (rl 1)))
  hd0 : IsDesk K H (dk 0) d (rs 0) (pa 0)
  hd1 : IsDesk K H (dk 1) d (rs 1) (pa 1)
theorem TS2.to {K : Fg} {L M g B N S : Addr} {s dk : Nat → Addr} {d : NetD} {rl rs : Nat → Rds} {nn : Nat → Nat} {pa : Nat → List Rds} {H H' : Hp} (h : TS2 K L M g B N S s dk d rl rs nn pa H) (e : ∀ b o, b ∈ [L, M, B, N, S, s 0, s 1, dk 0, dk 1] → H b = some o → H' b = some o) (f : Fz K H H') : TS2 K L M g B N S s dk d rl rs nn pa H' :=
  ⟨h.hL.to (fun t xs => fz_tup f) fun o => e _ o (by simp), h.hM.to (fun t xs => fz_tup f) fun o => e _ o (by simp), h.hG.fz f, e _ _ (by simp) h.hB, e _ _ (by simp) h.hS, e _ _ (by simp) h.hN, e _ _ (by simp) h.hs0, e _ _ (by simp) h.hs1, h.hd0.at f fun o => e _ o (by simp), h.hd1.at f fun o => e _ o (by simp)⟩
theorem TS2.ex {K : Fg} {L M g B N S : Addr} {s dk : Nat → Addr} {d : NetD} {rl rs : Nat → Rds} {nn : Nat → Nat} {pa : Nat → List Rds} {H H' : Hp} (h : TS2 K L M g B N S s dk d rl rs nn pa H) (e : Ex H H') : TS2 K L M g B N S s dk d rl rs nn pa H' := h.to (fun b o _ => e b o) e.fz
def spBR (K : Fg) : Sp := fun vs H Q _ => ∃ (L M g B N S : Addr) (s dk : Nat → Addr) (d : NetD) (rs : Nat → Rds) (pa : Nat → List Rds), vs = [.ref B, .ref g, .ref L, .ref M, .ref S, .ref N] ∧ TS2 K L M g B N S s dk d rs rs (fun j => (pa j).length) pa H ∧ (∀ j, ∀ r ∈ rs j, SmallO r) ∧
  ∀ H', Ex H H' → Q (.bl true) H'
theorem spv_DR {K : Fg} {H : Hp} {dk g L M S : Addr} {d : NetD} {rs : Rds} {past : List Rds} (hD : IsDesk K H dk d rs past) (hG : IsNet K H g d) (hL : LinesAt H L d.1) (hM : DialsAt H M d.2) (hS : H S = some (.lst (rdsV rs))) (hs : ∀ r ∈ rs, SmallO r) :
    SpV (spDR K) [.ref dk, .ref g, .ref L, .ref M, .ref S, .int (past.length : Nat)] H (.bl true) := fun H1 e Q q E => ⟨dk, g, L, M, S, d, rs, past, rfl, hD.ex e, hG.fz e.fz, hL.ex e, hM.ex e, e _ _ hS, hs, q⟩
theorem spv_BR {K : Fg} {H : Hp} {L M g B N S : Addr} {s dk : Nat → Addr} {d : NetD} {rs : Nat → Rds} {nn : Nat → Nat} {pa : Nat → List Rds} (h : TS2 K L M g B N S s dk d rs rs nn pa H) (hn : ∀ j, nn j = (pa j).length) (hs : ∀ j, ∀ r ∈ rs j, SmallO r) : SpV (spBR K) [.ref B, .ref g, .ref L, .ref M, .ref S, .ref N] H (.bl true) := fun H1 e Q q E => by
  obtain rfl : nn = fun j => (pa j).length := funext hn
  exact ⟨L, M, g, B, N, S, s, dk, d, rs, pa, rfl, h.ex e, hs, q⟩

theorem ok__law_both_right {P : Program} {w : World} {K : Fg} {mg : Str → Option Value} {base : Heap} (T : TX K mg) : CalG P w K mg base 9 (At.a K (.glo "_law_both_right")) (spBR K) := by
  obtain ⟨fd, F⟩ := (T.says.def_ 45 (d := d__law_both_right) rfl)
  refine calG_nox F sc__law_both_right (fun vs H Q E h => ?_) (fun _ _ _ _ _ _ us hl => match us, hl with | [_, _, _, _, _, _], _ => rfl) (fun cdv A outer s H vs Q E hg hr h => ?_)
  · obtain ⟨L, M, g, B, N, S, s, dk, d, rs, pa, rfl, _⟩ := h
    rfl
  · refine ⟨_, (pss_cons (ps_for PassesOwn.never rfl (pi_range1 (by rfl) (T.free 66) (pa_cons pe_int pa_nil)) (pg_name (i := 6) sc__law_both_right.nd rfl (by first | exact Or.inl rfl | exact Or.inr rfl))
      (pss_one (ps_if (pt_not (pt_val (pe_calG (ok__law_desk_right T) hg hr (by decide) (by rfl) (T.glo 85) (pa_cons (pe_ix (ix_listk (K := K)) (pv 0) (pv 6) (fun _ _ => rfl)) (pa_cons (pv 1) (pa_cons (pv 2) (pa_cons (pv 3) (pa_cons (pe_ix (ix_listk (K := K)) (pv 4) (pv 6) (fun _ _ => rfl)) (pa_cons (pe_ix (ix_listk (K := K)) (pv 5) (pv 6) (fun _ _ => rfl)) pa_nil))))))))) (pss_one (ps_ret pe_bl)) pss_nil)))
      (pss_one (ps_ret pe_bl))), ?_⟩
    obtain ⟨L, M, g, B, N, S, s, dk, d, rs, pa, rfl, h, hsm, k⟩ := h
    refine q_forR1 (n := 2) (ea_cons ev_c ea_nil) ⟨by decide, by decide⟩ (fun i σ' H' => (∃ o6, σ' = [some (.ref B), some (.ref g), some (.ref L), some (.ref M), some (.ref S), some (.ref N), o6]) ∧ Ex H H') (fun H1 e1 => ⟨⟨_, rfl⟩, e1⟩) (fun i σ' H' hi w => ?_) fun σ' H' w => ?_
    · obtain ⟨⟨o6, rfl⟩, e⟩ := w
      have h' := h.ex e
      have hi2 : i = 0 ∨ i = 1 := by omega
      rcases hi2 with rfl | rfl
      · exact s_when (b := false) (et_is (et_not (et_B (ev_call (ea_cons (ev_op (ev_var rfl) (ev_var rfl) (rv_ixL (sqL_of h'.hB) (atI_k (k := 0) rfl))) (ea_cons (ev_var rfl) (ea_cons (ev_var rfl) (ea_cons (ev_var rfl) (ea_cons (ev_op (ev_var rfl) (ev_var rfl) (rv_ixL (sqL_of h'.hS) (atI_k (k := 0) rfl))) (ea_cons (ev_op (ev_var rfl) (ev_var rfl) (rv_ixL (sqL_of h'.hN) (atI_k (k := 0) rfl))) ea_nil)))))) (spv_DR h'.hd0 h'.hG h'.hL h'.hM h'.hs0 (hsm 0))))) rfl) (fun h => by cases h) fun _ H1 e1 => ⟨⟨_, rfl⟩, e.trans e1⟩
      · exact s_when (b := false) (et_is (et_not (et_B (ev_call (ea_cons (ev_op (ev_var rfl) (ev_var rfl) (rv_ixL (sqL_of h'.hB) (atI_k (k := 1) rfl))) (ea_cons (ev_var rfl) (ea_cons (ev_var rfl) (ea_cons (ev_var rfl) (ea_cons (ev_op (ev_var rfl) (ev_var rfl) (rv_ixL (sqL_of h'.hS) (atI_k (k := 1) rfl))) (ea_cons (ev_op (ev_var rfl) (ev_var rfl) (rv_ixL (sqL_of h'.hN) (atI_k (k := 1) rfl))) ea_nil)))))) (spv_DR h'.hd1 h'.hG h'.hL h'.hM h'.hs1 (hsm 1))))) rfl) (fun h => by cases h) fun _ H1 e1 => ⟨⟨_, rfl⟩, e.trans e1⟩
    · obtain ⟨⟨o6, rfl⟩, e⟩ := w
      exact s_ret (D := { nx := _, rt := Q }) ev_c fun H1 e1 => k H1 (e.trans e1)
end RV

namespace RV
open PySem PySem.Spec PyProof.Rows L2 Evl


section
variable {K : Fg} {p : Addr} {σ : L2.St} {H : Hp} {ta tb tc td te : TE} {x y z v w : V} {r : R2} {S S' S1 S2 S3 : V → Prop} {D : Ends} {tz tu tw : TS} {d : NetD} {E : XK}
theorem fresh_but {H' : Hp} {a : Addr} (b : But [p] H H') (hp : Pool H' p) (n : H' a = none) : H a = none := by
  cases hh : H a with
  | none => rfl
  | some o =>
    have hap : a ≠ p := fun z => by
      obtain ⟨a1, a2, a3, h⟩ := hp
      rw [← z, n] at h
      cases h
    rw [b a o hh (not_mem1 hap)] at n
    cases n
theorem go_lines {R : VK} (hp : Pool H p) (h : Ev ta σ H (.ref p)) (h2 : EvD p tb σ H fun v => ∃ n : Nat, v = .int (n : Nat) ∧ 1 ≤ n ∧ n ≤ 12) (h3 : ∀ H1, But [p] H H1 → Pool H1 p → EvD p tc σ H1 fun v => ∃ n : Nat, v = .int (n : Nat) ∧ 2 ≤ n ∧ n ≤ 30)
    (k : ∀ (L : Addr) (ps : List PipeD) H1, H L = none → But [p] H H1 → Pool H1 p → LinesAt H1 L ps → 1 ≤ ps.length → ps.length ≤ 12 → (ps.map (·.1)).Nodup → (∀ d ∈ ps, PipeOk d) → R (.ref L) H1) : tCall spLines [] E (tCons ta (tCons tb (tCons tc tNil))) σ H R :=
  h H (Ex.refl H) _ fun H1 e1 => h2 H1 e1 _ fun v H2 b2 hp2 s2 => h3 H2 (e1.butT b2) hp2 H2 (Ex.refl _) _ fun w H3 b3 hp3 s3 => by
    obtain ⟨n, rfl, n1, n2⟩ := s2
    obtain ⟨m, rfl, m1, m2⟩ := s3
    have b := (e1.butT b2).trans b3
    exact ⟨p, n, m, rfl, by omega, m1, m2, hp3, fun L ps H4 nL b4 hp4 hL hl hn ho => k L ps H4 (fresh_but b hp3 nL) (b.trans b4) hp4 hL (by omega) (by omega) hn ho⟩
theorem go_dials {R : VK} {L : Addr} {ps : List PipeD} {rr : Nat} (hp : Pool H p) (hL : LinesAt H L ps) (hLp : L ≠ p) (h0 : 0 < ps.length) (h1 : ps.length ≤ 1000) (ho : ∀ d ∈ ps, PipeOk d) (hr0 : 0 < rr) (hr1 : rr ≤ 1000) (h : Ev ta σ H (.ref p)) (hb : Ev tb σ H (.ref L)) (h3 : EvD p tc σ H fun v => ∃ n : Nat, v = .int (n : Nat) ∧ n ≤ 12) (h4 : ∀ H1, But [p] H H1 → Ev td σ H1 (.int (rr : Nat)))
    (k : ∀ (M : Addr) (ms : List MetD) H1, H M = none → But [p] H H1 → Pool H1 p → DialsAt H1 M ms → ms.length ≤ 12 → (ms.map (·.1)).Nodup → (∀ d ∈ ms, MetOk d ∧ d.2.1 ∈ ps.map (·.1)) → R (.ref M) H1) : tCall spDials [] E (tCons ta (tCons tb (tCons tc (tCons td tNil)))) σ H R :=
  h H (Ex.refl H) _ fun H1 e1 => hb H1 e1 _ fun H2 e2 => h3 H2 (e1.trans e2) _ fun v H3 b3 hp3 s3 => (h4 H3 ((e1.trans e2).butT b3)) H3 (Ex.refl _) _ fun H4 e4 => by
    obtain ⟨n, rfl, n1⟩ := s3
    have b : But [p] H H4 := ((e1.trans e2).butT b3).same e4
    exact ⟨p, L, ps, n, rr, rfl, by omega, hr0, hr1, hL.but b hp hLp, h0, h1, ho, hp3.ex e4, fun M ms H5 nM b5 hp5 hM hl hn hk => k M ms H5 (fresh_but b (hp3.ex e4) nM) (b.trans b5) hp5 hM (by omega) hn hk⟩
theorem ev_text {L M : Addr} (hL : LinesAt H L d.1) (hM : DialsAt H M d.2) (ok : AllOk d) (h1 : d.1.length ≤ 100) (h2 : d.2.length ≤ 100) (ha : Ev ta σ H (.ref L)) (hb : Ev tb σ H (.ref M)) : Ev (tCall spText [] E (tCons ta (tCons tb tNil))) σ H (.str (textOf d)) :=
  ev_call (ea_cons ha (ea_cons hb ea_nil)) fun H1 e Q q E => ⟨L, M, d, rfl, hL.ex e, hM.ex e, ok, h1, h2, q⟩
theorem evp_read (ok : NetOk d) (oka : AllOk d) (hc : Ev ta σ H (.ref (He.ga K "Net"))) (h : Ev tb σ H (.str (textOf d))) : EvP (ClX.tCMeth (He.ga K "Net") (spRead K) E ta (tCons tb tNil)) σ H (VNet K d) :=
  evp_clm hc (ea_cons h ea_nil) fun H1 e Q q E => ⟨d, rfl, ok, oka, q⟩
def NewDesk (K : Fg) (H : Hp) (d : NetD) (v : V) (H2 : Hp) : Prop := ∃ a, v = .ref a ∧ H a = none ∧ IsDesk K H2 a d (rs0 d) []
theorem evp_Desk {g : Addr} (hG : IsNet K H g d) (h : Ev ta σ H (.ref g)) : EvP (tMake (He.ga K "Desk") (spDesk0 K) [] E (tCons ta tNil)) σ H (NewDesk K H d) :=
  evp_make (ea_cons h ea_nil) fun H1 e x dx n1 n2 n3 Q q E => by
    have e2 : Ex H (upd (upd H1 dx (.own x)) x (.ins (He.ga K "Desk") dx [])) := e.trans ((same_new n2).trans (same_new (by rw [upd_ne n3.symm]; exact n1)))
    exact ⟨x, dx, .ref g, d, rfl, upd_same, ⟨g, rfl, hG.fz e2.fz⟩, fun H' b hD => ⟨rfl, q H' (ex_made n1 n2 b) ⟨x, rfl, fresh_back e n1, hD⟩⟩⟩
theorem evp_DeskK (h : EvP ta σ H (VNet K d)) : EvP (tMakeK (He.ga K "Desk") 0 1 (spDesk0 K) (fun vs zs => vs ++ zs) E tNil (tCons ta tNil)) σ H (NewDesk K H d) := fun H1 e Q q =>
  h H1 e _ fun v H2 e2 hv => ⟨rfl, rfl, fun x dx n1 n2 n3 => by
    have e3 : Ex H2 (upd (upd H2 dx (.own x)) x (.ins (He.ga K "Desk") dx [])) := (same_new n2).trans (same_new (by rw [upd_ne n3.symm]; exact n1))
    exact ⟨x, dx, v, d, rfl, upd_same, VNet.fz e3.fz hv, fun H' b hD => ⟨rfl, q _ H' (e2.trans (ex_made n1 n2 b)) ⟨x, rfl, fresh_back (e.trans e2) n1, hD⟩⟩⟩⟩
def NewBoth (K : Fg) (H : Hp) (d : NetD) (v : V) (H2 : Hp) : Prop := ∃ B a b, v = .ref B ∧ H B = none ∧ H a = none ∧ H b = none ∧ a ≠ b ∧ H2 B = some (.lst [.ref a, .ref b]) ∧ IsDesk K H2 a d (rs0 d) [] ∧ IsDesk K H2 b d (rs0 d) []
theorem evp_both (h1 : EvP ta σ H (NewDesk K H d)) (h2 : ∀ H1, Ex H H1 → EvP tb σ H1 (NewDesk K H1 d)) : EvP (tLst (tCons ta (tCons tb tNil))) σ H (NewBoth K H d) := fun H1 e Q q =>
  h1 H1 e _ fun v H2 e2 ⟨a, hv, na, hDa⟩ => h2 H2 (e.trans e2) H2 (Ex.refl _) _ fun w H3 e3 ⟨b, hw, nb, hDb⟩ => ⟨by show 2 ≤ sizeLine; decide, fun B nB => by
    subst hv hw
    have hab : a ≠ b := by
      obtain ⟨_, _, _, _, _, h, _⟩ := id hDa
      exact ne_of_none h nb
    exact q _ _ ((e2.trans e3).trans (same_new nB)) ⟨B, a, b, rfl, fresh_back ((e.trans e2).trans e3) nB, na, fresh_back (e.trans e2) nb, hab, upd_same, (hDa.ex e3).ex (same_new nB), hDb.ex (same_new nB)⟩⟩
theorem q_parPL {i j : Nat} {P : V → Hp → Prop} {xs : List V} (h : EvP ta σ H P) (hb : ∀ H1, Ex H H1 → EvL tb σ H1 xs) (k : ∀ v l H1 H2, Ex H H1 → P v H1 → H1 l = none → Ex H1 H2 → H2 l = some (.lst xs) → tz D ((σ.set i (some v)).set j (some (.ref l))) H2) : tSeq (tPar i j (tCons ta (tCons tb tNil))) tz D σ H :=
  h H (Ex.refl H) _ fun v H1 e1 pv => hb H1 e1 H1 (Ex.refl _) _ fun l H2 nl e2 hl => ⟨_, _, rfl, k v l H1 H2 e1 pv nl e2 hl⟩
theorem q_unpackPL {i j : Nat} {P : V → Hp → Prop} {xs : List V} (h : EvP ta σ H P) (hb : ∀ H1, Ex H H1 → EvL tb σ H1 xs) (k : ∀ v l H1 H2, Ex H H1 → P v H1 → H1 l = none → Ex H1 H2 → H2 l = some (.lst xs) → tz D ((σ.set i (some v)).set j (some (.ref l))) H2) : tSeq (tAsg (tTup (tCons ta (tCons tb tNil))) (gTup K 2 (gCons (gName i) (gCons (gName j) gNil)))) tz D σ H :=
  h H (Ex.refl H) _ fun v H1 e1 pv => hb H1 e1 H1 (Ex.refl _) _ fun l H2 nl e2 hl => ⟨by show 2 ≤ sizeLine; decide, fun t nt => ⟨t, [v, .ref l], rfl, sqT_of upd_same, rfl, v, [.ref l], rfl, .ref l, [], rfl, rfl, k v l H1 _ e1 pv nl (e2.trans (same_new nt)) (hp_old nt hl)⟩⟩
theorem et_yes : EvT tYes σ H true := fun H2 _ _ q => q H2 (Ex.refl H2)
/-- [a new list for NAME in ..] -/
theorem q_lcLL {wi : TI} {j i n : Nat} {vs : List Nat} {xs ws : List V} (hS : EvS wi σ H ws) (hl : ws.length = n) (hz : n ≤ 50000) (hw : ∀ x, wipe ((wipe σ vs).set j (some x)) vs = wipe σ vs)
    (step : ∀ (x : V) H1, Ex H H1 → EvL te ((wipe σ vs).set j (some x)) H1 xs)
    (k : ∀ D' (bs : List Addr) H1, Ex H H1 → H D' = none → H1 D' = some (.lst (bs.map V.ref)) → bs.length = n → bs.Nodup → (∀ b ∈ bs, H b = none ∧ b ≠ D' ∧ H1 b = some (.lst xs)) → tz D (σ.set i (some (.ref D'))) H1) : tSeq (tAsg (tLc wi (gName j) tYes te vs) (gName i)) tz D σ H :=
  hS H (Ex.refl H) _ fun J H2 G e2 hW hG D' hD => by
    refine lc_it hW (fun i H' => ∃ bs : List Addr, Ex H2 H' ∧ H' D' = some (.lst (bs.map V.ref)) ∧ bs.length = i ∧ bs.Nodup ∧ ∀ b ∈ bs, H2 b = none ∧ b ≠ D' ∧ H' b = some (.lst xs)) ⟨[], Ex.new hD, upd_same, rfl, List.nodup_nil, fun b hb => by cases hb⟩ (fun i H' _ q => ?_) (fun i x H' H'' hi q y => ?_) fun H' q => ?_
    · obtain ⟨bs, p1, _⟩ := q
      exact hG H' p1
    · obtain ⟨bs, p1, p2, p3, p4, p5⟩ := q
      obtain ⟨rfl, hx⟩ := y
      refine ⟨hw x, et_yes H'' (Ex.refl _) _ fun H0 e0 => ?_⟩
      rw [if_pos rfl]
      refine (step x H'' (e2.trans p1)) H0 e0 _ fun b H3 nb' e3' hb => ⟨bs.map V.ref, (e0.trans e3') _ _ p2, sz_lt (by rw [List.length_map]; omega), bs ++ [b], ?_, by rw [upd_same]; simp, by rw [List.length_append, p3]; rfl, ?_, fun c hc => ?_⟩
      all_goals have e3 := e0.trans e3'
      all_goals have nb := fresh_back e0 nb'
      · exact Ex.mut (p1.trans e3) hD
      · refine List.nodup_append.mpr ⟨p4, List.pairwise_singleton .., fun a ha c hc => ?_⟩
        rw [List.mem_singleton.mp hc]
        exact ne_of_none (p5 a ha).2.2 nb
      · have hbD : b ≠ D' := Ne.symm (ne_of_none p2 nb)
        rcases List.mem_append.mp hc with hc | hc
        · obtain ⟨c1, c2, c3⟩ := p5 c hc
          exact ⟨c1, c2, by rw [upd_ne c2]; exact e3 _ _ c3⟩
        · rw [List.mem_singleton.mp hc]
          exact ⟨fresh_back p1 nb, hbD, by rw [upd_ne hbD]; exact hb⟩
    · obtain ⟨bs, p1, p2, p3, p4, p5⟩ := q
      exact k D' bs H' (e2.trans p1) (fresh_back e2 hD) p2 (by omega) p4 fun b hb => ⟨fresh_back e2 (p5 b hb).1, (p5 b hb).2⟩
theorem evd_orV {b0 : V → Prop} (h1 : EvD p ta σ H fun v => ∃ b, v = .bl b) (h2 : ∀ H1, But [p] H H1 → ∃ b, Ev tb σ H1 (.bl b)) : EvD p (tOrV ta tb) σ H fun v => ∃ b, v = .bl b := fun H1 e Q q =>
  h1 H1 e _ fun v H2 b2 hp2 s => by
    obtain ⟨b, rfl⟩ := s
    refine ⟨b, rfl, ?_⟩
    cases b with
    | true => exact q _ H2 b2 hp2 ⟨true, rfl⟩
    | false =>
      obtain ⟨c, hc⟩ := h2 H2 (e.butT b2)
      exact hc H2 (Ex.refl _) Q fun H3 e3 => q _ H3 (b2.same e3) (hp2.ex e3) ⟨c, rfl⟩
theorem evd_reading {b : Bool} (hp : Pool H p) (h : Ev ta σ H (.ref p)) (h2 : Ev tb σ H (.bl b)) : EvD p (tCall spReading [] E (tCons ta (tCons tb tNil))) σ H fun v => ∃ r, v = rdV r ∧ SmallO r ∧ (r = none → b = false) := fun H1 e Q q =>
  h H1 e _ fun H2 e2 => h2 H2 (e.trans e2) _ fun H3 e3 => ⟨p, b, rfl, hp.ex ((e.trans e2).trans e3), fun r H4 k0 k1 b4 hp' => q _ H4 ((e2.trans e3).butT b4) hp' ⟨r, rfl, k0, k1⟩⟩
end


def upF {α : Type} (f : Nat → α) (w : Nat) (x : α) : Nat → α := fun j => if j = w then x else f j
theorem upF_same {α : Type} {f : Nat → α} {w : Nat} {x : α} : upF f w x w = x := if_pos rfl
/-- the lists apart, the desks apart -/
structure Apart (p L M B N S : Addr) (s dk : Nat → Addr) : Prop where
  ls : [p, L, M, B, N, S, s 0, s 1].Nodup
  dk : dk 0 ≠ dk 1
section
variable {K : Fg} {p L M g B N S : Addr} {s dk : Nat → Addr} {d : NetD} {rl rs : Nat → Rds} {nn : Nat → Nat} {pa : Nat → List Rds} {H H' : Hp}
theorem upd_lst_fz {q : Addr} {xs ys : List V} (h : H q = some (.lst xs)) : Fz K H (upd H q (.lst ys)) := (ei_lst h).fz
theorem desk_ne_lst {a q : Addr} {d : NetD} {rs : Rds} {pa : List Rds} {xs : List V} (h : IsDesk K H a d rs pa) (hq : H q = some (.lst xs)) : a ≠ q := h.ne hq fun C dx fs z => by cases z
theorem TS2.setS (h : TS2 K L M g B N S s dk d rl rs nn pa H) (ap : Apart p L M B N S s dk) {w : Nat} (hw : w = 0 ∨ w = 1) (r : Rds) : TS2 K L M g B N S s dk d (upF rl w r) rs nn pa (upd H (s w) (.lst (rdsV r))) := by
  have nd := ap.ls
  simp only [List.nodup_cons, List.mem_cons, List.not_mem_nil, or_false, not_or, not_false_eq_true, List.nodup_nil, and_true] at nd
  obtain ⟨⟨_, _, _, _, _, _, _⟩, ⟨_, _, _, _, hL0, hL1⟩, ⟨_, _, _, hM0, hM1⟩, ⟨_, _, hB0, hB1⟩, ⟨_, hN0, hN1⟩, ⟨hS0, hS1⟩, h01⟩ := nd
  rcases hw with rfl | rfl
  · have f := upd_lst_fz (K := K) (ys := rdsV r) h.hs0
    refine ⟨h.hL.to (fun t xs => fz_tup f) fun o ho => by rw [upd_ne hL0]; exact ho, h.hM.to (fun t xs => fz_tup f) fun o ho => by rw [upd_ne hM0]; exact ho, h.hG.fz f, by rw [upd_ne hB0]; exact h.hB, by rw [upd_ne hS0]; exact h.hS, by rw [upd_ne hN0]; exact h.hN, upd_same, by rw [upd_ne (Ne.symm h01)]; exact h.hs1, h.hd0.at f fun o ho => by rw [upd_ne (desk_ne_lst h.hd0 h.hs0)]; exact ho, h.hd1.at f fun o ho => by rw [upd_ne (desk_ne_lst h.hd1 h.hs0)]; exact ho⟩
  · have f := upd_lst_fz (K := K) (ys := rdsV r) h.hs1
    refine ⟨h.hL.to (fun t xs => fz_tup f) fun o ho => by rw [upd_ne hL1]; exact ho, h.hM.to (fun t xs => fz_tup f) fun o ho => by rw [upd_ne hM1]; exact ho, h.hG.fz f, by rw [upd_ne hB1]; exact h.hB, by rw [upd_ne hS1]; exact h.hS, by rw [upd_ne hN1]; exact h.hN, by rw [upd_ne h01]; exact h.hs0, upd_same, h.hd0.at f fun o ho => by rw [upd_ne (desk_ne_lst h.hd0 h.hs1)]; exact ho, h.hd1.at f fun o ho => by rw [upd_ne (desk_ne_lst h.hd1 h.hs1)]; exact ho⟩
theorem TS2.setN (h : TS2 K L M g B N S s dk d rl rs nn pa H) (ap : Apart p L M B N S s dk) (n' : Nat → Nat) : TS2 K L M g B N S s dk d rl rs n' pa (upd H N (.lst [.int (n' 0 : Nat), .int (n' 1 : Nat)])) := by
  have nd := ap.ls
  simp only [List.nodup_cons, List.mem_cons, List.not_mem_nil, or_false, not_or, not_false_eq_true, List.nodup_nil, and_true] at nd
  obtain ⟨⟨_, _, _, _, _, _, _⟩, ⟨_, _, hLN, _, _, _⟩, ⟨_, hMN, _, _, _⟩, ⟨hBN, _, _, _⟩, ⟨hNS, hN0, hN1⟩, ⟨_, _⟩, _⟩ := nd
  have f := upd_lst_fz (K := K) (ys := [.int (n' 0 : Nat), .int (n' 1 : Nat)]) h.hN
  exact ⟨h.hL.to (fun t xs => fz_tup f) fun o ho => by rw [upd_ne hLN]; exact ho, h.hM.to (fun t xs => fz_tup f) fun o ho => by rw [upd_ne hMN]; exact ho, h.hG.fz f, by rw [upd_ne hBN]; exact h.hB, by rw [upd_ne (Ne.symm hNS)]; exact h.hS, upd_same, by rw [upd_ne (Ne.symm hN0)]; exact h.hs0, by rw [upd_ne (Ne.symm hN1)]; exact h.hs1, h.hd0.at f fun o ho => by rw [upd_ne (desk_ne_lst h.hd0 h.hN)]; exact ho, h.hd1.at f fun o ho => by rw [upd_ne (desk_ne_lst h.hd1 h.hN)]; exact ho⟩
theorem TS2.but (h : TS2 K L M g B N S s dk d rl rs nn pa H) (ap : Apart p L M B N S s dk) (b : But [p] H H') (hp : Pool H p) : TS2 K L M g B N S s dk d rl rs nn pa H' := by
  have nd := ap.ls
  simp only [List.nodup_cons, List.mem_cons, List.not_mem_nil, or_false, not_or, not_false_eq_true, List.nodup_nil, and_true] at nd
  obtain ⟨⟨h1, h2, h3, h4, h5, h6, h7⟩, _⟩ := nd
  obtain ⟨a1, a2, a3, hp⟩ := hp
  refine h.to (fun q o hq ho => b q o ho (not_mem1 fun z => ?_)) (fz_of b hp nfro_lst)
  subst z
  simp only [List.mem_cons, List.not_mem_nil, or_false] at hq
  rcases hq with hq | hq | hq | hq | hq | hq | hq | hq | hq
  · exact h1 hq
  · exact h2 hq
  · exact h3 hq
  · exact h4 hq
  · exact h5 hq
  · exact h6 hq
  · exact h7 hq
  · exact desk_ne_lst h.hd0 hp hq.symm
  · exact desk_ne_lst h.hd1 hp hq.symm
theorem nfro_at {a dx : Addr} {fs : List (Str × V)} (hne : ∀ x ∈ frozen, He.ga K "Desk" ≠ He.ga K x) : ¬ Fro K (.ins (He.ga K "Desk") dx fs) := fun z => by
  obtain ⟨x, hx, e⟩ := z.1
  exact hne x hx e
theorem TS2.setD (h : TS2 K L M g B N S s dk d rl rs nn pa H) (ap : Apart p L M B N S s dk) (hne : ∀ x ∈ frozen, He.ga K "Desk" ≠ He.ga K x) {w : Nat} (hw : w = 0 ∨ w = 1) {r : Rds} {q : List Rds} (b : But [dk w] H H') (hD : IsDesk K H' (dk w) d r q) : TS2 K L M g B N S s dk d rl (upF rs w r) nn (upF pa w q) H' := by
  have kl : ∀ {a : Addr} {xs : List V}, H a = some (.lst xs) → ∀ o, H a = some o → H' a = some o := fun {a xs} ha o ho => b a o ho (not_mem1 fun z => by
    subst z
    rcases hw with rfl | rfl
    · exact desk_ne_lst h.hd0 ha rfl
    · exact desk_ne_lst h.hd1 ha rfl)
  obtain ⟨yl, hyl, _⟩ := id h.hL
  obtain ⟨ym, hym, _⟩ := id h.hM
  rcases hw with rfl | rfl
  · obtain ⟨na, dx, tn, tp, xs, h1, _⟩ := id h.hd0
    have f : Fz K H H' := fz_of b h1 (nfro_at (a := 0) hne)
    exact ⟨h.hL.to (fun t xs => fz_tup f) (kl hyl), h.hM.to (fun t xs => fz_tup f) (kl hym), h.hG.fz f, kl h.hB _ h.hB, kl h.hS _ h.hS, kl h.hN _ h.hN, kl h.hs0 _ h.hs0, kl h.hs1 _ h.hs1, hD, h.hd1.at f fun o ho => b _ _ ho (not_mem1 ap.dk.symm)⟩
  · obtain ⟨na, dx, tn, tp, xs, h1, _⟩ := id h.hd1
    have f : Fz K H H' := fz_of b h1 (nfro_at (a := 0) hne)
    exact ⟨h.hL.to (fun t xs => fz_tup f) (kl hyl), h.hM.to (fun t xs => fz_tup f) (kl hym), h.hG.fz f, kl h.hB _ h.hB, kl h.hS _ h.hS, kl h.hN _ h.hN, kl h.hs0 _ h.hs0, kl h.hs1 _ h.hs1, h.hd0.at f fun o ho => b _ _ ho (not_mem1 ap.dk), hD⟩
theorem TS2.atW (h : TS2 K L M g B N S s dk d rl rs nn pa H) {w : Nat} (hw : w = 0 ∨ w = 1) : H (s w) = some (.lst (rdsV (rl w))) ∧ IsDesk K H (dk w) d (rs w) (pa w) ∧ [V.ref (s 0), .ref (s 1)][w]? = some (.ref (s w)) ∧ [V.ref (dk 0), .ref (dk 1)][w]? = some (.ref (dk w)) ∧ [V.int (nn 0 : Nat), .int (nn 1 : Nat)][w]? = some (.int (nn w : Nat)) := by
  rcases hw with rfl | rfl
  · exact ⟨h.hs0, h.hd0, rfl, rfl, rfl⟩
  · exact ⟨h.hs1, h.hd1, rfl, rfl, rfl⟩
end

end RV

namespace RV
open PySem PySem.Spec PyProof.Rows L2 Evl


def spRight : Sp := fun vs H Q _ => ∃ p, vs = [.ref p] ∧ Pool H p ∧ ∀ H', But [p] H H' → Q (.bl true) H'
section
variable {K : Fg} {σ : L2.St} {H : Hp} {ta tb tc te : TE} {D : Ends} {tz : TS} {E : XK}
theorem go_asg {i : Nat} (h : te σ H fun v H1 => tz D (σ.set i (some v)) H1) : tSeq (tAsg te (gName i)) tz D σ H := h
theorem rdsV_set (rs : Rds) (j : Nat) (r : Option Int) : (rdsV rs).set j (rdV r) = rdsV (rs.set j r) := by
  unfold rdsV
  rw [List.map_set]
def dialD (m : MetD) : PyData := .tuple [.str m.1, .str m.2.1, .bool m.2.2]
theorem strOk_name {z : Str} (h : nameOk z = true) : PyData.strOk z = true := by
  have h1 : ∀ c ∈ TL.tl z, c < 0x110000 := fun c hc => by
    have h2 := nameOk_sign h hc
    have h3 : c ∈ TL.tl SGN := by
      have e : (TL.tl SGN) = TL.tl LOW ++ TL.tl DIG := by decide +kernel
      rw [e]
      rcases Bool.or_eq_true_iff.mp h2 with h2 | h2
      · exact List.mem_append.mpr (.inl (of_decide_eq_true h2))
      · exact List.mem_append.mpr (.inr (of_decide_eq_true h2))
    have h4 : ∀ c ∈ TL.tl SGN, c < 0x110000 := by decide +kernel
    exact h4 c h3
  show z.cps.all (· < 0x110000) = true
  rw [← Array.all_toList]
  exact List.all_eq_true.mpr fun c hc => decide_eq_true (h1 c hc)
theorem dials_lay : ∀ {ms : List MetD}, (∀ m ∈ ms, MetOk m) → PyData.canLayAll0 (ms.map dialD) = true ∧ PyData.depthAll (ms.map dialD) ≤ 1
  | [], _ => ⟨rfl, Nat.zero_le _⟩
  | m :: ms, h => by
    obtain ⟨h1, h2⟩ := dials_lay (ms := ms) fun x hx => h x (List.mem_cons_of_mem _ hx)
    obtain ⟨o1, o2⟩ := h m (List.mem_cons_self ..)
    constructor
    · show ((PyData.strOk m.1 && (PyData.strOk m.2.1 && (true && true))) && PyData.canLayAll0 (ms.map dialD)) = true
      rw [strOk_name o1, strOk_name o2, h1]
      rfl
    · show max (max 0 (max 0 (max 0 0)) + 1) (PyData.depthAll (ms.map dialD)) ≤ 1
      exact Nat.max_le.mpr ⟨by decide, h2⟩
theorem dp_dials {zs : List V} : ∀ {ms : List MetD}, Each RowM H ms zs → DpAll K H zs (ms.map dialD) := by
  intro ms h
  induction h with
  | nil => exact .nil
  | cons r _ ih =>
    obtain ⟨t, rfl, ht⟩ := r
    exact .cons (.tup (sqT_of ht) (.cons (.str _) (.cons (.str _) (.cons (.bl _) .nil)))) ih
theorem rv_neM {M q : Addr} {ms : List MetD} (hM : DialsAt H M ms) (ok : ∀ m ∈ ms, MetOk m) (hq : H q = some (.lst [])) : RV (rNeD K) (.ref M) (.ref q) H (.bl (!ms.isEmpty)) := fun H1 e _ k => by
  obtain ⟨zs, hz, hE⟩ := hM.ex e
  obtain ⟨l1, l2⟩ := dials_lay ok
  refine ⟨.list (ms.map dialD), .list [], .lst (sqL_of hz) (dp_dials hE), .lst (sqL_of (e _ _ hq)) .nil, ?_, rfl, ?_⟩
  · unfold SeqAt.shaped
    have h1 : PyData.canLay0 (.list (ms.map dialD)) = true := l1
    have h2 : PyData.depth (.list (ms.map dialD)) ≤ 2 := Nat.succ_le_succ l2
    rw [h1, decide_eq_true (show PyData.depth (.list (ms.map dialD)) ≤ 64 by omega)]
    rfl
  · have : PyData.eqv (.list (ms.map dialD)) (.list []) = ms.isEmpty := by
      cases ms <;> rfl
    rw [this]
    exact k H1 (Ex.refl _)
/-- what a desk is compared with -/
def PO (K : Fg) (a : Addr) (d : NetD) : V → Hp → Prop := fun v H => v = .non ∨ (∃ t xs, v = .ref t ∧ H t = some (.tup xs)) ∨ (∃ b dx fs, v = .ref b ∧ a ≠ b ∧ H b = some (.ins (He.ga K "Desk") dx fs)) ∨ (∃ b, v = .ref b ∧ IsNet K H b d)
theorem po_mon {a : Addr} {d : NetD} : Mon (PO K a d) := fun v H H' e h => by
  rcases h with h | ⟨t, xs, h1, h2⟩ | ⟨b, dx, fs, h1, h2, h3⟩ | ⟨b, h1, h2⟩
  · exact .inl h
  · exact .inr (.inl ⟨t, xs, h1, e _ _ h2⟩)
  · exact .inr (.inr (.inl ⟨b, dx, fs, h1, h2, e _ _ h3⟩))
  · exact .inr (.inr (.inr ⟨b, h1, h2.fz e.fz⟩))
theorem evp_PO {a : Addr} {d : NetD} {v : V} (h : Ev te σ H v) (p : PO K a d v H) : EvP te σ H (PO K a d) := fun H1 e Q q => h H1 e Q fun H2 e2 => q v H2 e2 (po_mon _ _ _ (e.trans e2) p)
theorem go_drop (h : te σ H fun _ H1 => D.nx σ H1) : tDrop te D σ H := h
theorem go_set {a : Addr} {d : NetD} {rs : Rds} {past : List Rds} {s : Str} {j : Nat} {r : Option Int} {m : MetD} {R : VK} (hD : IsDesk K H a d rs past) (hp : past.length < 1000) (hs : SeatAt d.2 s j) (hm : d.2[j]? = some m) (hr : r = none → m.2.2 = false) (h1 : Ev ta σ H (.ref a)) (h2 : Ev tb σ H (.str s)) (h3 : Ev tc σ H (rdV r))
    (k : ∀ H', But [a] H H' → IsDesk K H' a d (rs.set j r) (past ++ [rs]) → R .non H') : tCall (spDeskSet K) [] E (tCons ta (tCons tb (tCons tc tNil))) σ H R :=
  h1 H (Ex.refl H) _ fun H1 e1 => h2 H1 e1 _ fun H2 e2 => h3 H2 (e1.trans e2) _ fun H3 e3 => ⟨a, d, rs, past, s, j, r, m, rfl, hD.ex ((e1.trans e2).trans e3), hp, hs, hm, hr, fun H' b hD' => k H' (((e1.trans e2).trans e3).butT b) hD'⟩
end


section
variable {K : Fg} {mg : Str → Option Value} {H : Hp}
theorem rv_PO (T : TX K mg) {a dx : Addr} {fs : List (Str × V)} {d : NetD} {y : V} {neg : Bool} (ha : H a = some (.ins (He.ga K "Desk") dx fs)) (hy : PO K a d y H) : RV (rEqF K (He.ga K "Net") (spNetEq K) neg) (.ref a) y H (.bl neg) := fun H1 e Q q => by
  refine ⟨a, He.ga K "Desk", dx, fs, rfl, e _ _ ha, (T.eqf 86), (T.subT 87), ?_⟩
  rcases po_mon _ _ _ e hy with h | ⟨t, xs, h1, h2⟩ | ⟨b, dy, gs, h1, h2, h3⟩ | ⟨b, h1, h2⟩
  · exact .inl ⟨h, q H1 (Ex.refl _)⟩
  · exact .inr (.inl ⟨t, xs, h1, h2, q H1 (Ex.refl _)⟩)
  · exact .inr (.inr (.inl ⟨b, _, dy, gs, h1, h2, h3, (T.eqf 86), nf_self, q H1 (Ex.refl _)⟩))
  · obtain ⟨_, dn, _, _, _, _, hI, _⟩ := id h2
    exact .inr (.inr (.inr ⟨b, dn, _, h1, hI, nf_of (T.sub 88), b, .ref a, d, false, rfl, h2, .inl ⟨rfl, isC_ins (e _ _ ha) (T.cls 50) (T.ins 81) (T.kit 89)⟩, fun H2 e2 => ⟨rfl, q H2 e2⟩⟩))
theorem desk_apart (T : TX K mg) : ∀ x ∈ frozen, He.ga K "Desk" ≠ He.ga K x := fun x hx => by
  simp only [frozen, List.mem_cons, List.not_mem_nil, or_false] at hx
  rcases hx with rfl | rfl | rfl | rfl | rfl | rfl
  · exact (T.ne 56)
  · exact (T.ne 57)
  · exact (T.ne 58)
  · exact (T.ne 59)
  · exact (T.ne 60)
  · exact (T.ne 61)
end

set_option maxHeartbeats 400000 in
theorem ok__law_right {P : Program} {w : World} {K : Fg} {mg : Str → Option Value} {base : Heap} (T : TX K mg) : CalG P w K mg base 10 (At.a K (.glo "_law_right")) (spRight) := by
  obtain ⟨fd, F⟩ := (T.says.def_ 46 (d := d__law_right) rfl)
  refine calG_nox F sc__law_right (fun vs H Q E h => ?_) (fun _ _ _ _ _ _ us hl => match us, hl with | [_], _ => rfl) (fun cdv A outer s H vs Q E hg hr h => ?_)
  · obtain ⟨p, rfl, _⟩ := h
    rfl
  · refine ⟨_, (pss_cons (ps_set (i := 1) sc__law_right.nd rfl (by first | exact Or.inl rfl | exact Or.inr rfl) (pe_cal ((ok__law_lines T).cal (T.glo 90)) hr (by decide) (by rfl) (pa_cons (pv 0) (pa_cons (pe_op op_add pe_int (pe_cal ((ok__law_draw T).cal (T.glo 65)) hr (by decide) (by rfl) (pa_cons (pv 0) (pa_cons pe_int pa_nil)))) (pa_cons (pe_op op_add pe_int (pe_cal ((ok__law_draw T).cal (T.glo 65)) hr (by decide) (by rfl) (pa_cons (pv 0) (pa_cons pe_int pa_nil)))) pa_nil)))))
      (pss_cons (ps_set (i := 2) sc__law_right.nd rfl (by first | exact Or.inl rfl | exact Or.inr rfl) (pe_cal ((ok__law_dials T).cal (T.glo 91)) hr (by decide) (by rfl) (pa_cons (pv 0) (pa_cons (pv 1) (pa_cons (pe_cal ((ok__law_draw T).cal (T.glo 65)) hr (by decide) (by rfl) (pa_cons (pv 0) (pa_cons pe_int pa_nil))) (pa_cons pe_int pa_nil))))))
      (pss_cons (ps_set (i := 3) sc__law_right.nd rfl (by first | exact Or.inl rfl | exact Or.inr rfl) (pe_clm (clm_of (T.clm 92) (ok_Net_read T)) hr (by decide) (pe_glob (by rfl) (T.glo 42) (rel_ref _)) (pa_cons (pe_cal ((ok__law_text T).cal (T.glo 93)) hr (by decide) (by rfl) (pa_cons (pv 1) (pa_cons (pv 2) pa_nil))) pa_nil)))
      (pss_cons (ps_asg (pe_tup (pa_cons (pe_lst (pa_cons (pe_mak (mak_of (T.mkr 94) (T.glo 95) (ok_Desk_init T)) hr (by decide) (by rfl) (pa_cons (pv 3) pa_nil)) (pa_cons (pe_makK0 (makK_of (T.mkr 94) (T.glo 95) (ok_Desk_init_net T)) hr (by decide) (by rfl) (pk_cons (pe_clm (clm_of (T.clm 92) (ok_Net_read T)) hr (by decide) (pe_glob (by rfl) (T.glo 42) (rel_ref _)) (pa_cons (pe_cal ((ok__law_text T).cal (T.glo 93)) hr (by decide) (by rfl) (pa_cons (pv 1) (pa_cons (pv 2) pa_nil))) pa_nil)) pk_nil)) pa_nil))) (pa_cons (pe_lst (pa_cons pe_int (pa_cons pe_int pa_nil))) pa_nil))) (pg_tupk (K := K) (n := 2) rfl (pgs_cons (pg_name (i := 4) sc__law_right.nd rfl (by first | exact Or.inl rfl | exact Or.inr rfl)) (pgs_cons (pg_name (i := 5) sc__law_right.nd rfl (by first | exact Or.inl rfl | exact Or.inr rfl)) pgs_nil))))
      (pss_cons (ps_setLc (i := 6) (own := [("_law_turn", 13)]) (by rfl) sc__law_right.nd rfl rfl (sw_true rfl rfl rfl (by decide +kernel)) (pi_range1 (by rfl) (T.free 66) (pa_cons pe_int pa_nil)) (blkOk_by (own := [("_law_turn", 13)]) (by kernel_rfl)) (fun _ _ _ _ _ => (pg_name (i := 13) sc__law_right.nd rfl (by first | exact Or.inl rfl | exact Or.inr rfl))) (fun _ _ _ _ _ => pts_nil) (fun _ _ _ _ _ => (pe_lc (own := [("_law_dial", 14)]) (by rfl) sc__law_right.nd (pi_listk (K := K) (pv 2)) (blkOk_by (own := [("_law_dial", 14)]) (by kernel_rfl)) (fun _ _ _ _ _ => (pg_name (i := 14) sc__law_right.nd rfl (by first | exact Or.inl rfl | exact Or.inr rfl))) (fun _ _ _ _ _ => pts_nil) (fun _ _ _ _ _ => (pe_ifExp (pt_val (pe_ix (ix_tupk (K := K)) (pv 14) pe_int (fun _ _ => rfl))) pe_int pe_non)))))
      (pss_cons (ps_for PassesOwn.never rfl (pi_range1 (by rfl) (T.free 66) (pa_cons (pe_op op_add pe_int (pe_cal ((ok__law_draw T).cal (T.glo 65)) hr (by decide) (by rfl) (pa_cons (pv 0) (pa_cons pe_int pa_nil)))) pa_nil)) (pg_name (i := 7) sc__law_right.nd rfl (by first | exact Or.inl rfl | exact Or.inr rfl))
      (pss_cons (ps_par (i := 8) (j := 9) (by rfl) sc__law_right.nd rfl rfl (by decide) rfl rfl (pa_cons (pe_cal ((ok__law_draw T).cal (T.glo 65)) hr (by decide) (by rfl) (pa_cons (pv 0) (pa_cons pe_int pa_nil))) (pa_cons (pe_or (pe_cmpR op_gt (pe_cal ((ok__law_draw T).cal (T.glo 65)) hr (by decide) (by rfl) (pa_cons (pv 0) (pa_cons pe_int pa_nil))) pe_int (nomark _)) (pe_one (pe_cmpR op_eq (pv 7) pe_int (nomark _)))) pa_nil)) (by rfl))
      (pss_cons (ps_if (PW.pt (pw_and (pt_val (pv 9)) (pw_and1 (pt_not (pt_val (pe_calG (ok__law_both_right T) hg hr (by decide) (by rfl) (T.glo 96) (pa_cons (pv 4) (pa_cons (pv 3) (pa_cons (pv 1) (pa_cons (pv 2) (pa_cons (pv 6) (pa_cons (pv 5) pa_nil)))))))))))) (pss_one (ps_ret pe_bl)) pss_nil)
      (pss_one (ps_if (pt_cmpR (op_neDk (K := K) hr.units) (pv 2) (pe_lst pa_nil) (nomark _)) (pss_cons (ps_set (i := 10) sc__law_right.nd rfl (by first | exact Or.inl rfl | exact Or.inr rfl) (pe_cal ((ok__law_draw T).cal (T.glo 65)) hr (by decide) (by rfl) (pa_cons (pv 0) (pa_cons (pe_callB (id := "len") (call_len_seqk (K := K)) (by rfl) (T.free 4) (by decide +kernel) (pa_cons (pv 2) pa_nil)) pa_nil))))
      (pss_cons (ps_set (i := 11) sc__law_right.nd rfl (by first | exact Or.inl rfl | exact Or.inr rfl) (pe_cal ((ok__law_reading T).cal (T.glo 97)) hr (by decide) (by rfl) (pa_cons (pv 0) (pa_cons (pe_ix (ix_tupk (K := K)) (pe_ix (ix_listk (K := K)) (pv 2) (pv 10) (fun _ _ => rfl)) pe_int (fun _ _ => rfl)) pa_nil))))
      (pss_cons (ps_asg (pv 11) (pg_sub (pe_ix (ix_listk (K := K)) (pv 6) (pv 8) (fun _ _ => rfl)) (pv 10) set_list))
      (pss_cons (ps_asg (pe_op op_add (pe_ix (ix_listk (K := K)) (pv 5) (pv 8) (fun _ _ => rfl)) pe_int) (pg_sub (pv 5) (pv 8) set_list))
      (pss_one (ps_expr (pe_cal ((ok__law_set T).cal (T.glo 98)) hr (by decide) (by rfl) (pa_cons (pe_ix (ix_listk (K := K)) (pv 4) (pv 8) (fun _ _ => rfl)) (pa_cons (pe_ix (ix_tupk (K := K)) (pe_ix (ix_listk (K := K)) (pv 2) (pv 10) (fun _ _ => rfl)) pe_int (fun _ _ => rfl)) (pa_cons (pv 11) pa_nil)))))))))) pss_nil)))))
      (pss_cons (ps_if (pt_not (pt_val (pe_calG (ok__law_both_right T) hg hr (by decide) (by rfl) (T.glo 96) (pa_cons (pv 4) (pa_cons (pv 3) (pa_cons (pv 1) (pa_cons (pv 2) (pa_cons (pv 6) (pa_cons (pv 5) pa_nil))))))))) (pss_one (ps_ret pe_bl)) pss_nil)
      (pss_cons (ps_set (i := 12) sc__law_right.nd rfl (by first | exact Or.inl rfl | exact Or.inr rfl) (pe_lst (pa_cons (pe_ix (ix_listk (K := K)) (pv 4) pe_int (fun _ _ => rfl)) (pa_cons (pv 3) (pa_cons (pe_callTy (T := "tuple") (call_tuple_ofk (K := K)) (by rfl) (T.free 15) (by decide +kernel) (pa_cons (pe_ix (ix_listk (K := K)) (pv 6) pe_int (fun _ _ => rfl)) pa_nil)) (pa_cons pe_non (pa_cons (pe_prp (prp_of (T.cls 50) (T.prp 74) (ok_Desk_readings T)) hr (by decide) (pe_ix (ix_listk (K := K)) (pv 4) pe_int (fun _ _ => rfl)) rfl) pa_nil)))))))
      (pss_cons (ps_if (pt_cmpR (op_neDk (K := K) hr.units) (pe_lc (own := [("_law_thing", 15)]) (by rfl) sc__law_right.nd (pi_listk (K := K) (pv 12)) (blkOk_by (own := [("_law_thing", 15)]) (by kernel_rfl)) (fun _ _ _ _ _ => (pg_name (i := 15) sc__law_right.nd rfl (by first | exact Or.inl rfl | exact Or.inr rfl))) (fun _ _ _ _ _ => pts_nil) (fun _ _ _ _ _ => (pe_cmpR (op_eqFk (K := K) (opq_of (T.eqo 78) (ok_Net___eq__ T)) hr (by decide)) (pe_ix (ix_listk (K := K)) (pv 4) pe_int (fun _ _ => rfl)) (pv 15) (nomark _)))) (pe_op op_rep (pe_lst (pa_cons pe_bl pa_nil)) pe_int) (nomark _)) (pss_one (ps_ret pe_bl)) pss_nil)
      (pss_one (ps_ret (pe_cmpR (op_eqDk (K := K) hr.units) (pe_lc (own := [("_law_thing", 15)]) (by rfl) sc__law_right.nd (pi_listk (K := K) (pv 12)) (blkOk_by (own := [("_law_thing", 15)]) (by kernel_rfl)) (fun _ _ _ _ _ => (pg_name (i := 15) sc__law_right.nd rfl (by first | exact Or.inl rfl | exact Or.inr rfl))) (fun _ _ _ _ _ => pts_nil) (fun _ _ _ _ _ => (pe_cmpR (op_neFk (K := K) (opq_of (T.eqo 78) (ok_Net___eq__ T)) hr (by decide)) (pe_ix (ix_listk (K := K)) (pv 4) pe_int (fun _ _ => rfl)) (pv 15) (nomark _)))) (pe_op op_rep (pe_lst (pa_cons pe_bl pa_nil)) pe_int) (nomark _))))))))))))), ?_⟩
    obtain ⟨p, rfl, hp, k⟩ := h
    refine go_asg (go_lines (p := p) hp (ev_var rfl) (evd_R ev_c (evd_draw hp (ev_var rfl) ev_c (by decide) (by decide)) fun y hy H1 b => ?_) (fun H1 b1 hp1 => evd_R ev_c (evd_draw hp1 (ev_var rfl) ev_c (by decide) (by decide)) fun y hy H2 b => ?_) fun L ps H1 nL b1 hp1 hL hps1 hps2 hpn hpo => ?_)
    · obtain ⟨x, rfl, d0, d1⟩ := hy
      exact ⟨_, rv_I0, (1 + x).toNat, congrArg V.int (by omega), by omega, by omega⟩
    · obtain ⟨x, rfl, d0, d1⟩ := hy
      exact ⟨_, rv_I0, (2 + x).toNat, congrArg V.int (by omega), by omega, by omega⟩
    have poolNe : ∀ {G : Hp} {x : Addr}, Pool G p → G x = none → p ≠ x := fun {G x} hG hx => by
      obtain ⟨a1, a2, a3, h⟩ := hG
      exact ne_of_none h hx
    have npL := poolNe hp nL
    refine go_asg (go_dials (p := p) (rr := 3) hp1 hL npL.symm (by omega) (by omega) hpo (by decide) (by decide) (ev_var rfl) (ev_var rfl) ((evd_draw hp1 (ev_var rfl) ev_c (by decide) (by decide)).imp fun v hv => ?_) (fun _ _ => ev_c) fun M ms H2 nM b2 hp2 hM hms hmn hmo => ?_)
    · obtain ⟨x, rfl, d0, d1⟩ := hv
      exact ⟨x.toNat, congrArg V.int (by omega), by omega⟩
    have okN : NetOk (ps, ms) := ⟨⟨(List.length_pos_iff (l := ps)).mp (by omega), hps2, hpn⟩, hms, hmn, fun m hm => (hmo m hm).2⟩
    have okA : AllOk (ps, ms) := fun i hi => by
      unfold itemsOf at hi
      rcases List.mem_append.mp hi with hi | hi
      · obtain ⟨x, hx, rfl⟩ := List.mem_map.mp hi
        exact hpo x hx
      · obtain ⟨x, hx, rfl⟩ := List.mem_map.mp hi
        exact (hmo x hx).1
    have hL2 := hL.but b2 hp1 npL.symm
    refine q_asgP (evp_read okN okA ev_c (ev_text hL2 hM okA (Nat.le_trans hps2 (by decide)) (Nat.le_trans hms (by decide)) (ev_var rfl) (ev_var rfl))) fun v H3 e3 hv => ?_
    obtain ⟨g, rfl, hG⟩ := hv
    have hL3 := hL2.ex e3
    have hM3 := hM.ex e3
    have l100 : (ps, ms).1.length ≤ 100 := Nat.le_trans hps2 (by decide)
    have m100 : (ps, ms).2.length ≤ 100 := Nat.le_trans hms (by decide)
    refine q_unpackPL (P := NewBoth K H3 (ps, ms)) (xs := [.int 0, .int 0]) ?_ (fun H4 e4 => el_lst (ea_cons ev_c (ea_cons ev_c ea_nil)) (by show 2 ≤ 100000; decide)) fun v N H4 H5 e4 hv nN e5 hN => ?_
    · refine evp_both ?_ fun H4 e4 => ?_
      · exact evp_Desk hG (ev_var rfl)
      · refine evp_DeskK ?_
        refine evp_read okN okA ev_c ?_
        exact ev_text (hL3.ex e4) (hM3.ex e4) okA l100 m100 (ev_var rfl) (ev_var rfl)
    obtain ⟨B, a, b, rfl, nB, na, nb, hab, hB, hDa, hDb⟩ := hv
    have e35 := e4.trans e5
    have hM5 := hM3.ex e35
    refine q_lcLL (n := 2) (xs := rdsV (rs0 (ps, ms))) (ws := (List.range 2).map fun i => V.int (i : Nat)) (evs_range (n := 2) (ea_cons ev_c ea_nil) (by decide)) rfl (by decide) (fun _ => rfl) (fun x H6 e6 => ?_) fun S bs H6 e6 nS hS hbl hbn hbs => ?_
    · obtain ⟨zs, hz, hE⟩ := hM5.ex e6
      have hzl := Each.len hE
      have hx : rdsV (rs0 (ps, ms)) = ms.map fun m => if m.2.2 then V.int 0 else .non := by
        unfold rs0 rdsV
        rw [List.map_map]
        refine List.map_congr_left fun m _ => ?_
        show rdV (if m.2.2 = true then some 0 else none) = _
        split <;> rfl
      rw [hx]
      refine el_lc1 (xs := zs) ms _ (evs_list (ev_var rfl) (sqL_of hz)) hzl.symm (by omega) (fun _ => rfl) fun i x m H7 e7 hx hm => ?_
      obtain ⟨t, rfl, ht⟩ := Each.mem hE i m x hm hx
      exact ev_if (et_B (ev_op (ev_var rfl) ev_c (rv_ixT (sqT_of (e7 _ _ ht)) (atI_k (k := 2) rfl)))) (fun hs => by rw [if_pos hs]; exact ev_c) fun hs => by rw [if_neg (by rw [hs]; decide)]; exact ev_c
    obtain ⟨s0, s1, rfl⟩ : ∃ x y, bs = [x, y] := by
      match bs, hbl with
      | [x, y], _ => exact ⟨x, y, rfl⟩
    obtain ⟨n0, nS0, h0⟩ := hbs s0 (by simp)
    obtain ⟨n1, nS1, h1⟩ := hbs s1 (by simp)
    let s : Nat → Addr := fun j => if j = 0 then s0 else s1
    let dk : Nat → Addr := fun j => if j = 0 then a else b
    have e36 := e35.trans e6
    have hp3 := hp2.ex e3
    have hp4 := hp3.ex e4
    have hp5 := hp4.ex e5
    have hp6 := hp5.ex e6
    obtain ⟨yl, hLy, _⟩ := id hL3
    obtain ⟨ym, hMy, _⟩ := id hM3
    obtain ⟨yl1, hLy1, _⟩ := id hL
    have hB5 := e5 _ _ hB
    have h01 : s0 ≠ s1 := by
      have := (List.nodup_cons.mp hbn).1
      simpa using this
    have ap : Apart p L M B N S s dk := ⟨by
      simp only [List.nodup_cons, List.mem_cons, List.not_mem_nil, or_false, not_or, not_false_eq_true, List.nodup_nil, and_true]
      exact ⟨⟨npL, poolNe hp1 nM, poolNe hp3 nB, poolNe hp4 nN, poolNe hp5 nS, poolNe hp5 n0, poolNe hp5 n1⟩, ⟨ne_of_none hLy1 nM, ne_of_none hLy nB, ne_of_none (e4 _ _ hLy) nN, ne_of_none (e35 _ _ hLy) nS, ne_of_none (e35 _ _ hLy) n0, ne_of_none (e35 _ _ hLy) n1⟩, ⟨ne_of_none hMy nB, ne_of_none (e4 _ _ hMy) nN, ne_of_none (e35 _ _ hMy) nS, ne_of_none (e35 _ _ hMy) n0, ne_of_none (e35 _ _ hMy) n1⟩, ⟨ne_of_none hB nN, ne_of_none hB5 nS, ne_of_none hB5 n0, ne_of_none hB5 n1⟩, ⟨ne_of_none hN nS, ne_of_none hN n0, ne_of_none hN n1⟩, ⟨nS0.symm, nS1.symm⟩, h01⟩, hab⟩
    have t6 : TS2 K L M g B N S s dk (ps, ms) (fun _ => rs0 (ps, ms)) (fun _ => rs0 (ps, ms)) (fun _ => 0) (fun _ => []) H6 := ⟨hL3.ex e36, hM3.ex e36, hG.fz e36.fz, e6 _ _ hB5, hS, e6 _ _ hN, h0, h1, (hDa.ex e5).ex e6, (hDb.ex e5).ex e6⟩
    have b03 : But [p] H H3 := (b1.trans b2).same e3
    have b06 : But [p] H H6 := b03.same e36
    have fr3 : ∀ {x : Addr}, H3 x = none → H x = none := fun {x} hx => fresh_but b03 hp3 hx
    have fs : ∀ w, w = 0 ∨ w = 1 → H (s w) = none ∧ H (dk w) = none := fun w hw => by
      rcases hw with rfl | rfl
      · exact ⟨fr3 (fresh_back e35 n0), fr3 na⟩
      · exact ⟨fr3 (fresh_back e35 n1), fr3 nb⟩
    have fN : H N = none := fr3 (fresh_back e4 nN)
    have small0 : ∀ r ∈ rs0 (ps, ms), SmallO r := fun r hr3 => by
      unfold rs0 at hr3
      obtain ⟨m, _, rfl⟩ := List.mem_map.mp hr3
      split
      · exact ⟨by decide, by decide⟩
      · trivial
    refine q_forRD (p := p) (lo := 2) (N := 9) (evd_R ev_c (evd_draw hp6 (ev_var rfl) ev_c (by decide) (by decide)) fun y hy H7 b7 => ?_) (by decide) (fun n i σ' H' => (∃ o7 o8 o9 o10 o11 o12 o13 o14 o15, σ' = [some (.ref p), some (.ref L), some (.ref M), some (.ref g), some (.ref B), some (.ref N), some (.ref S), o7, o8, o9, o10, o11, o12, o13, o14, o15]) ∧ But [p] H H' ∧ Pool H' p ∧ ∃ rs nn pa, TS2 K L M g B N S s dk (ps, ms) rs rs nn pa H' ∧ (∀ j, nn j = (pa j).length) ∧ (∀ j, ∀ r ∈ rs j, SmallO r) ∧ ∀ j, (pa j).length ≤ i) (fun n H7 b7 hp7 _ _ => ⟨⟨_, _, _, _, _, _, _, _, _, rfl⟩, b06.trans b7, hp7, _, _, _, t6.but ap b7 hp6, fun _ => rfl, fun _ => small0, fun _ => Nat.zero_le _⟩) (fun n i σ' H' hi hn w => ?_) fun n σ' H' _ hn w => ?_
    · obtain ⟨x, rfl, d0, d1⟩ := hy
      exact ⟨_, rv_I0, (2 + x).toNat, congrArg V.int (by omega), by omega, by omega⟩
    · obtain ⟨⟨o7, o8, o9, o10, o11, o12, o13, o14, o15, rfl⟩, b', hp', rs, nn, pa, t, hnn, hsm, hpa⟩ := w
      refine q_parD (p := p) (S1 := Rng 2) (S2 := fun v => ∃ b, v = .bl b) (evd_draw hp' (ev_var rfl) ev_c (by decide) (by decide)) (fun H7 b7 hp7 => evd_orV (b0 := fun _ => True) (evd_L (evd_draw hp7 (ev_var rfl) ev_c (by decide) (by decide)) (fun _ _ => ev_c) fun x hx H8 b8 => ?_) (fun H8 b8 => ⟨_, ev_op (ev_var rfl) ev_c (rv_eq rfl)⟩)) fun v w H7 b7 hp7 hv hw => ?_
      · obtain ⟨x, rfl, d0, d1⟩ := hx
        exact ⟨_, rv_I0, _, rfl⟩
      obtain ⟨wi, rfl, w0, w1⟩ := hv
      obtain ⟨wn, rfl, hwn⟩ : ∃ n : Nat, wi = (n : Int) ∧ (n = 0 ∨ n = 1) := ⟨wi.toNat, by omega, by omega⟩
      obtain ⟨asked, rfl⟩ := hw
      have t7 := t.but ap b7 hp'
      refine q_when (b := false) (et_is (et_and (a := asked) (b := false) (et_B (ev_var rfl)) fun _ => et_not (a := true) (et_B (ev_call (ea_cons (ev_var rfl) (ea_cons (ev_var rfl) (ea_cons (ev_var rfl) (ea_cons (ev_var rfl) (ea_cons (ev_var rfl) (ea_cons (ev_var rfl) ea_nil)))))) (spv_BR t7 hnn hsm)))) (by cases asked <;> rfl)) (fun h => by cases h) fun _ H8 e8 => ?_
      have t8 := t7.ex e8
      have b8 := (b'.trans b7).same e8
      have hp8 := hp7.ex e8
      refine s_when (b := !ms.isEmpty) (et_test (ev_opL (ev_var rfl) (el_lst ea_nil (by decide)) fun q H9 hq e9 => rv_neM (t8.hM.ex e9) (fun m hm => (hmo m hm).1) hq)) (fun hb H9 e9 => ?_) fun hb H9 e9 => ⟨⟨_, _, _, _, _, _, _, _, _, rfl⟩, b8.same e9, hp8.ex e9, rs, nn, pa, t8.ex e9, hnn, hsm, fun j => Nat.le_succ_of_le (hpa j)⟩
      have hmpos : 0 < ms.length := by
        cases ms with
        | nil => cases hb
        | cons x y => exact Nat.succ_pos _
      have t9 := t8.ex e9
      have hp9 := hp8.ex e9
      obtain ⟨zs, hz, hE⟩ := id t9.hM
      have hzl : ms.length = zs.length := Each.len hE
      refine q_asgD (evd_draw hp9 (ev_var rfl) (ev_cb (ea_cons (ev_var rfl) ea_nil) (rc_lenL (sqL_of hz))) (by omega) (by omega)) fun v H10 b10 hp10 hv => ?_
      obtain ⟨ai, rfl, a0, a1⟩ := hv
      obtain ⟨an, rfl, han⟩ : ∃ n : Nat, ai = (n : Int) ∧ n < ms.length := ⟨ai.toNat, by omega, by omega⟩
      have hm : (ps, ms).2[an]? = some ms[an] := by
        show ms[an]? = _
        simp [han]
      have t10 := t9.but ap b10 hp9
      obtain ⟨zs', hz', hE'⟩ := id t10.hM
      obtain ⟨v, hv, tt, rfl, ht⟩ := Each.at' hE' hm
      refine q_asgD (evd_reading (b := ms[an].2.2) hp10 (ev_var rfl) (ev_op (ev_op (ev_var rfl) (ev_var rfl) (rv_ixL (sqL_of hz') (atI_k hv))) ev_c (rv_ixT (sqT_of ht) (atI_k (k := 2) rfl)))) fun v H11 b11 hp11 hv => ?_
      obtain ⟨r, rfl, hsr, hr2⟩ := hv
      have t11 := t10.but ap b11 hp10
      have b11' := ((b8.same e9).trans b10).trans b11
      obtain ⟨hsw, hdw, iS, iB, iN⟩ := t11.atW hwn
      have hrl : (rs wn).length = ms.length := by
        obtain ⟨_, _, _, _, _, _, _, _, _, _, h, _⟩ := hdw
        exact h
      refine q_setL (j := an) hsw (ev_var rfl) (ev_op (ev_var rfl) (ev_var rfl) (rv_ixL (sqL_of t11.hS) (atI_k iS))) (ev_var rfl) (by unfold rdsV; rw [List.length_map]; omega) fun H12 e12 => ?_
      rw [rdsV_set]
      have t12 := (t11.ex e12).setS ap hwn ((rs wn).set an r)
      refine q_setL (j := wn) t12.hN (ev_op (ev_op (ev_var rfl) (ev_var rfl) (rv_ixL (sqL_of t12.hN) (atI_k iN))) ev_c rv_I0) (ev_var rfl) (ev_var rfl) (by show wn < 2; omega) fun H13 e13 => ?_
      have hset : [V.int (nn 0 : Nat), V.int (nn 1 : Nat)].set wn (.int ((nn wn : Nat) + 1)) = [V.int (upF nn wn (nn wn + 1) 0 : Nat), V.int (upF nn wn (nn wn + 1) 1 : Nat)] := by
        rcases hwn with rfl | rfl <;> rfl
      rw [hset]
      have t13 := (t12.ex e13).setN ap (upF nn wn (nn wn + 1))
      obtain ⟨_, hdw13, _, iB13, _⟩ := t13.atW hwn
      obtain ⟨zs3, hz3, hE3⟩ := id t13.hM
      obtain ⟨v3, hv3, tt3, rfl, ht3⟩ := Each.at' hE3 hm
      have nd := ap.ls
      simp only [List.nodup_cons, List.mem_cons, List.not_mem_nil, or_false, not_or, not_false_eq_true, List.nodup_nil, and_true] at nd
      obtain ⟨⟨_, _, _, hpN, _, hps0, hps1⟩, _⟩ := nd
      have hpw : p ≠ s wn := by
        rcases hwn with rfl | rfl
        · exact hps0
        · exact hps1
      refine go_drop (go_set hdw13 (by have := hpa wn; omega) (seat_at hmn hm) hm hr2 (ev_op (ev_var rfl) (ev_var rfl) (rv_ixL (sqL_of t13.hB) (atI_k iB13))) (ev_op (ev_op (ev_var rfl) (ev_var rfl) (rv_ixL (sqL_of hz3) (atI_k hv3))) ev_c (rv_ixT (sqT_of ht3) (atI_k (k := 0) rfl))) (ev_var rfl) fun H14 b14 hD14 => ?_)
      have t14 := t13.setD ap (desk_apart T) hwn b14 hD14
      refine ⟨⟨_, _, _, _, _, _, _, _, _, rfl⟩, fun c o hc hn' => ?_, ?_, _, _, _, t14, fun j => ?_, fun j => ?_, fun j => ?_⟩
      · have c1 : c ≠ s wn := ne_of_none hc (fs wn hwn).1
        have c2 : c ≠ N := ne_of_none hc fN
        have c3 : c ≠ dk wn := ne_of_none hc (fs wn hwn).2
        refine b14 c o ?_ (not_mem1 c3)
        rw [upd_ne c2]
        refine e13 _ _ ?_
        rw [upd_ne c1]
        exact e12 _ _ (b11' c o hc hn')
      · obtain ⟨x1, x2, x3, hpp⟩ := hp11
        have h13 : upd H13 N (.lst [V.int (upF nn wn (nn wn + 1) 0 : Nat), V.int (upF nn wn (nn wn + 1) 1 : Nat)]) p = some (.lst [.int x1, .int x2, .int x3]) := by
          rw [upd_ne hpN]
          refine e13 _ _ ?_
          rw [upd_ne hpw]
          exact e12 _ _ hpp
        exact ⟨x1, x2, x3, b14 _ _ h13 (not_mem1 (Ne.symm (desk_ne_lst hdw13 h13)))⟩
      · show (if j = wn then _ else _) = List.length (if j = wn then _ else _)
        by_cases hj : j = wn
        · subst hj
          rw [if_pos rfl, if_pos rfl, List.length_append, hnn]
          rfl
        · rw [if_neg hj, if_neg hj, hnn]
      · intro r' hr'
        by_cases hj : j = wn
        · subst hj
          have : upF rs j ((rs j).set an r) j = (rs j).set an r := upF_same
          rw [this] at hr'
          rcases List.mem_or_eq_of_mem_set hr' with hr' | rfl
          · exact hsm j r' hr'
          · exact hsr
        · have : upF rs wn ((rs wn).set an r) j = rs j := if_neg hj
          rw [this] at hr'
          exact hsm j r' hr'
      · by_cases hj : j = wn
        · subst hj
          have : upF pa j (pa j ++ [rs j]) j = pa j ++ [rs j] := upF_same
          rw [this, List.length_append]
          have := hpa j
          show _ + 1 ≤ _
          omega
        · have : upF pa wn (pa wn ++ [rs wn]) j = pa j := if_neg hj
          rw [this]
          exact Nat.le_succ_of_le (hpa j)
    · obtain ⟨⟨o7, o8, o9, o10, o11, o12, o13, o14, o15, rfl⟩, b', hp', rs, nn, pa, t, hnn, hsm, hpa⟩ := w
      refine q_when (b := false) (et_not (a := true) (et_B (ev_call (ea_cons (ev_var rfl) (ea_cons (ev_var rfl) (ea_cons (ev_var rfl) (ea_cons (ev_var rfl) (ea_cons (ev_var rfl) (ea_cons (ev_var rfl) ea_nil)))))) (spv_BR t hnn hsm)))) (fun h => by cases h) fun _ H7 e7 => ?_
      have t7 := t.ex e7
      obtain ⟨_, dx0, tn0, _, _, hI0, _, hT0, _⟩ := id t7.hd0
      obtain ⟨_, dx1, _, _, _, hI1, _⟩ := id t7.hd1
      have both0 : ∀ {H8 : Hp} {σ : L2.St}, σ[4]? = some (some (.ref B)) → Ex H7 H8 → Ev (tOp (rIxL K) (tVar 4) (tC (.int 0))) σ H8 (.ref (dk 0)) := fun {H8 σ} h4 e => ev_op (ev_var h4) ev_c (rv_ixL (sqL_of (e _ _ t7.hB)) (atI_k (k := 0) rfl))
      refine q_asgP (evp_lstN (n := 5) (po_mon (a := dk 0) (d := (ps, ms))) (eapn_cons po_mon (evp_PO (ev_op (ev_var rfl) ev_c (rv_ixL (sqL_of t7.hB) (atI_k (k := 1) rfl))) (.inr (.inr (.inl ⟨dk 1, dx1, _, rfl, ap.dk, hI1⟩)))) (eapn_cons po_mon (evp_PO (ev_var rfl) (.inr (.inr (.inr ⟨g, rfl, t7.hG⟩)))) (eapn_cons po_mon ((evp_T (eu_tupOf (ev_op (ev_var rfl) ev_c (rv_ixL (sqL_of t7.hS) (atI_k (k := 0) rfl))) (sqL_of t7.hs0))).imp fun v H8 _ hv => ?_) (eapn_cons po_mon (evp_PO ev_c (.inl rfl)) (eapn_cons po_mon (evp_PO (ev_deskRds (both0 rfl (Ex.refl _)) hI0) (.inr (.inl ⟨tn0, _, rfl, hT0⟩))) eapn_nil))))) (by decide)) fun v H8 e8 hv => ?_
      · obtain ⟨x, h1, h2⟩ := hv
        exact .inr (.inl ⟨x, _, h1, h2⟩)
      obtain ⟨O, xs, rfl, hO, hlen, hall⟩ := hv
      have hcomp : ∀ neg : Bool, (List.replicate 5 neg).map V.bl = xs.map fun _ => V.bl neg := fun neg => by
        rw [List.map_const', List.map_replicate, hlen]
      refine q_when (b := false) (et_is (et_test (ev_opLL (xs := xs.map fun _ => V.bl false) (ys := (List.replicate 5 [V.bl false]).flatten) (el_lc1 (xs := xs) xs (fun _ => V.bl false) (evs_list (ev_var rfl) (sqL_of hO)) rfl (by omega) (fun _ => rfl) fun i x y H9 e9 hx hy => ?_) (el_rep (n := 5) (el_lst (ea_cons ev_c ea_nil) (by show 1 ≤ 100000; decide)) ev_c (by show 1 * 5 ≤ 100000; decide) (by decide)) fun p1 p2 H9 hp1 hp2 e9 => rv_neL (bs := List.replicate 5 false) (cs := List.replicate 5 false) hp1 hp2 (hcomp false).symm rfl)) (by rw [eqv_bools]; rfl)) (fun h => by cases h) fun _ H9 e9 => ?_
      · cases hx.symm.trans hy
        exact ev_op (both0 rfl (e8.trans e9)) (ev_var rfl) (rv_PO T ((e8.trans e9) _ _ hI0) (po_mon _ _ _ e9 (hall x (List.mem_of_getElem? hx))))
      refine s_ret (D := { nx := _, rt := Q }) (v := .bl true) (ev_is (ev_opLL (xs := xs.map fun _ => V.bl true) (ys := (List.replicate 5 [V.bl true]).flatten) (el_lc1 (xs := xs) xs (fun _ => V.bl true) (evs_list (ev_var rfl) (sqL_of (e9 _ _ hO))) rfl (by omega) (fun _ => rfl) fun i x y H10 e10 hx hy => ?_) (el_rep (n := 5) (el_lst (ea_cons ev_c ea_nil) (by show 1 ≤ 100000; decide)) ev_c (by show 1 * 5 ≤ 100000; decide) (by decide)) fun p1 p2 H10 hp1 hp2 e10 => rv_eqL (bs := List.replicate 5 true) (cs := List.replicate 5 true) hp1 hp2 (hcomp true).symm rfl) (by rw [eqv_bools])) fun H10 e10 => k H10 ((((b'.same e7).same e8).same e9).same e10)
      cases hx.symm.trans hy
      exact ev_op (both0 rfl ((e8.trans e9).trans e10)) (ev_var rfl) (rv_PO T (((e8.trans e9).trans e10) _ _ hI0) (po_mon _ _ _ (e9.trans e10) (hall x (List.mem_of_getElem? hx))))
end RV

namespace RV
open PySem PySem.Spec PyProof.Rows L2 Evl


def spLaw (K : Fg) : Sp := fun vs H Q _ => ∃ (a : Addr) (ns : List Int), vs = [.ref a] ∧ SqL K H a (ns.map V.int) ∧ ns.length ≤ 63 ∧ ∀ H', Q (.bl true) H'
theorem rc_min2 {H : Hp} {i j : Int} : RC (fun xs H Q => ∃ i j, xs = [.int i, .int j] ∧ Q (.int (if j < i then j else i)) H) [.int i, .int j] H (.int (if j < i then j else i)) := fun H1 _ _ q => ⟨i, j, rfl, q H1 (Ex.refl H1)⟩
theorem rc_max2 {H : Hp} {i j : Int} : RC (fun xs H Q => ∃ i j, xs = [.int i, .int j] ∧ Q (.int (if j > i then j else i)) H) [.int i, .int j] H (.int (if j > i then j else i)) := fun H1 _ _ q => ⟨i, j, rfl, q H1 (Ex.refl H1)⟩
/-- one cell's turn: all that it writes is new -/
theorem ev_right {K : Fg} {σ : L2.St} {H : Hp} {ta tb : TE} {E1 E2 E3 : XK} {a : Addr} {ns : List Int} {i : Nat} (hs : SqL K H a (ns.map V.int)) (hn : ns.length ≤ 63) (hi : i ≤ 1000) (ha : Ev ta σ H (.ref a)) (hb : Ev tb σ H (.int (i : Nat))) :
    Ev (tCall spRight [] E1 (tCons (tCall spPool [] E2 (tCons (tCall (spStart K) [] E3 (tCons ta (tCons tb tNil))) tNil)) tNil)) σ H (.bl true) := fun H1 e Q q =>
  ha H1 e _ fun H2 e2 => hb H2 (e.trans e2) _ fun H3 e3 => ⟨a, ns, i, rfl, ex_l ((e.trans e2).trans e3) hs, hn, hi, fun r H4 e4 => ⟨r, rfl, fun p H5 np e5 hp => ⟨p, rfl, hp, fun H6 b => q H6 fun c o hc => by
    have h4 := ((e2.trans e3).trans e4) _ _ hc
    exact b _ _ (e5 _ _ h4) (not_mem1 (ne_of_none h4 np))⟩⟩⟩

theorem fn_law {P : Program} {w : World} {K : Fg} {mg : Str → Option Value} {base : Heap} (T : TX K mg) {fd : FuncData} (F : FunD K d_law.name d_law.qual d_law.params d_law.body d_law.scope (DX.dv K d_law) (DX.kv K d_law) (At.a K (.glo "law")) fd) : FnG P w K mg base (L2.CX P w) 11 (At.a K (.glo "law")) fd ["_law_script"] (spLaw K) := by
  refine FunD.okG F sc_law (fun vs H Q E h => ?_) (fun cdv A outer s H vs Q E hg hr h => ?_)
  · obtain ⟨a, ns, rfl, _⟩ := h
    rfl
  · suffices hh : ∃ t, PSs (cxOf (L2.CX P w) P w K mg base _ _ d_law.scope (At.a K (.glo "law")) cdv A outer s H E).nox d_law.body t ∧ t { nx := fun _ H' => Q .non H', rt := Q } (start _ vs) H from (by
      obtain ⟨t, h1, h2⟩ := hh
      exact ⟨t, h1.nox, h2⟩)
    refine ⟨_, (pss_cons (ps_for PassesOwn.never rfl (pi_range1 (by rfl) (T.free 66) (pa_cons (pe_callB (id := "max") (call_max2 rfl) (by rfl) (T.free 100) (by decide +kernel) (pa_cons pe_int (pa_cons (pe_callB (id := "min") (call_min2 rfl) (by rfl) (T.free 99) (by decide +kernel) (pa_cons (pe_callB (id := "len") (call_len_seqk (K := K)) (by rfl) (T.free 4) (by decide +kernel) (pa_cons (pv 0) pa_nil)) (pa_cons pe_int pa_nil))) pa_nil))) pa_nil)) (pg_name (i := 1) sc_law.nd rfl (by first | exact Or.inl rfl | exact Or.inr rfl))
      (pss_one (ps_if (pt_not (pt_val (pe_calG (ok__law_right T) hg hr (by decide) (by rfl) (T.glo 101) (pa_cons (pe_cal ((ok__law_pool T).cal (T.glo 102)) hr (by decide) (by rfl) (pa_cons (pe_cal ((ok__law_start T).cal (T.glo 103)) hr (by decide) (by rfl) (pa_cons (pv 0) (pa_cons (pv 1) pa_nil))) pa_nil)) pa_nil)))) (pss_one (ps_ret pe_bl)) pss_nil)))
      (pss_one (ps_ret pe_bl))), ?_⟩
    obtain ⟨a, ns, rfl, hs, hn, k⟩ := h
    have hlen : (ns.map V.int).length = ns.length := List.length_map ..
    refine q_forR1 (ea_cons (ev_cb (ea_cons ev_c (ea_cons (ev_cb (ea_cons (ev_cb (ea_cons (ev_var rfl) ea_nil) (rc_lenL hs)) (ea_cons ev_c ea_nil)) rc_min2) ea_nil)) rc_max2) ea_nil) ?_ (fun i σ' H' => (∃ o, σ' = [some (.ref a), o]) ∧ SqL K H' a (ns.map V.int)) (fun H1 e1 => ⟨⟨_, rfl⟩, ex_l e1 hs⟩) (fun i σ' H' hi w => ?_) fun σ' H' w => ?_
    · rw [hlen]
      split <;> split <;> omega
    · obtain ⟨⟨o, rfl⟩, hs'⟩ := w
      have hi4 : i ≤ 1000 := by
        rw [hlen] at hi
        split at hi <;> split at hi <;> omega
      exact s_when (b := false) (et_is (et_not (et_B (ev_right hs' hn hi4 (ev_var rfl) (ev_var rfl)))) rfl) (fun h => by cases h) fun _ H1 e1 => ⟨⟨_, rfl⟩, ex_l e1 hs'⟩
    · obtain ⟨⟨o, rfl⟩, _⟩ := w
      exact s_ret (D := { nx := _, rt := Q }) ev_c fun H1 e1 => k H1
end RV

set_option maxHeartbeats 0
namespace RV
open PySem PySem.Spec PyProof.Rows L2 Evl
abbrev lawR : PySem.W.OpenRow := PySem.W.OpenLaw.row PySem.Challenge.rw_ringvotes_k65_desks_set_one_by_one
abbrev hkR : PySem.W.Hook := hookX 5 fx fn
def obR (s : PySem.W.SharedT) : AlX := obsXG 5 fx fn (HandSHeadRun.getT s)
theorem obR_eq (s : PySem.W.SharedT) : obR s = hkR.obs s.abs := obsXG_eq (HandSHeadRun.getT_eq s)
def nmR0 : List PySem.Str := ["_wall", "BadValue", "BadName", "InvalidName", "InvalidEnd", "InvalidFlag", "InvalidText", "InvalidReading", "NotAMeter", "NotANet", "InvalidPipes", "InvalidMeters", "UnknownName", "MOST_PIPES", "MOST_METERS", "LETTERS", "DIGITS", "LONGEST_NAME", "is_integer", "is_name", "check_name", "Pipe", "Meter", "check_pipes", "check_meters", "line_of", "item_of", "Net", "check_net", "seat_of"]
def nmR1 : List PySem.Str := ["check_reading", "Desk", "_law_start", "_law_pool", "_law_draw", "_law_word", "_law_words", "_law_lines", "_law_dials", "_law_text", "_law_number", "_law_reading", "_law_desk_right", "_law_both_right", "_law_set", "_law_right"]
def nmR : List PySem.Str := nmR0 ++ nmR1
theorem runR (w : World) : HandSHeadRun.RunEq lawR (PySem.W.view lawR.prog [51]) hkR obR 20000 nmR w := by
  intro os
  kernel_rfl
end RV
open PySem PySem.W PySem.Calls PyProof.Rows
theorem PySem.Challenge.cw_ringvotes_k65_desks_set_one_by_one_holds : PySem.Challenge.rw_ringvotes_k65_desks_set_one_by_one.Holds := by
  w_on; o_law
  refine HandSHeadRun.head_any (r := RV.lawR) (q := view RV.lawR.prog [51]) (H := RV.hkR) (ob := RV.obR) (M := 20000) (loose := RV.nmR) (d := HandSHeadRun.topDef RV.lawR.prog 51) (kwd := []) RV.obR_eq (by kernel_rfl) (fun s => by kernel_rfl) RV.runR (by kernel_rfl) (by kernel_rfl) (by kernel_rfl) (by rfl)
    (by first | assumption | decide +kernel) (by decide +kernel) ⟨rfl, rfl, rfl, rfl, rfl, by decide +kernel⟩ ?hw ?hc
  case hw => w_witness2
  case hc =>
    refine RV.walk_G (l := PySem.Challenge.rw_ringvotes_k65_desks_set_one_by_one) (n := 63) (k := 11) (x := "_law_script") (CX := L2.CX (PySem.Challenge.rw_ringvotes_k65_desks_set_one_by_one).prog) rfl (by decide) (by kernel_rfl) ⟨rfl, by decide, by decide⟩ ?F (fun w H s e s' z => by
      obtain ⟨_, _, _, _, _, _, _, _, _, _, _, _, z⟩ := z
      exact z)
    intro w mg fa h Y G hmg0
    obtain ⟨K, KX, c⟩ := Y
    have T : RV.TX K mg := RV.Tx.mk' c KX G
    have hmg : mg ("law" : PySem.Str) = some (.ref fa) := by
      have e : (HandSHeadRun.topDef RV.lawR.prog 51).name = ("law" : PySem.Str) := by kernel_rfl
      rw [← e]
      exact hmg0
    have e := hmg.symm.trans (T.glo 104)
    cases e
    obtain ⟨fd, F⟩ := T.says.def_ 47 (d := RV.d_law) rfl
    have b := L2.FunD.bindsA (ps := ["_law_script"]) F fun _ _ _ _ _ _ us hl => match us, hl with | [_], _ => rfl
    exact ⟨K, fd, RV.spLaw K, KX, fun s v => b s [v] rfl, fun H a ns hl _ hS => ⟨a, ns, rfl, hS, hl, fun _ => rfl⟩, fun base _ _ => RV.fn_law T F⟩
